/- The plain side of chapter 6, part 6: sequences in order, with and without those that begin in vain. -/
import Derived.Test.YtejffembnkojjaaC6PlanS
namespace Go.Plan
set_option linter.unusedVariables false
set_option linter.unusedSimpArgs false
def seqs (n : Nat) : Nat → List (List Int)
  | 0 => [[]]
  | k + 1 => (List.range n).flatMap fun j : Nat => (seqs n k).map fun t => (j : Int) :: t
def ext (n : Nat) : Nat → List Int → List (List Int)
  | 0, p => [p]
  | k + 1, p => (List.range n).flatMap fun j : Nat => ext n k (p ++ [(j : Int)])
theorem ext_eq (n : Nat) : ∀ k p, ext n k p = (seqs n k).map (p ++ ·)
  | 0, p => by simp [ext, seqs]
  | k + 1, p => by
    simp only [ext, seqs, List.map_flatMap]
    congr 1
    funext j
    rw [ext_eq n k, List.map_map]
    congr 1
    funext t
    simp
theorem seqs_len (n : Nat) : ∀ k, (seqs n k).length = n ^ k
  | 0 => rfl
  | k + 1 => by
    have : ∀ l : List Nat, (l.flatMap fun j : Nat => (seqs n k).map fun t => (j : Int) :: t).length = l.length * n ^ k := by
      intro l
      induction l with
      | nil => simp
      | cons a l ih => rw [List.flatMap_cons, List.length_append, ih, List.length_map, seqs_len n k, List.length_cons, Nat.succ_mul, Nat.add_comm]
    rw [seqs, this, List.length_range, Nat.pow_succ, Nat.mul_comm]
theorem seqs_mem (n : Nat) : ∀ k t, t ∈ seqs n k → t.length = k ∧ okS n t
  | 0, t, h => by
    simp only [seqs, List.mem_singleton] at h
    subst h; exact ⟨rfl, okS_nil n⟩
  | k + 1, t, h => by
    simp only [seqs, List.mem_flatMap, List.mem_range, List.mem_map] at h
    obtain ⟨j, hj, u, hu, rfl⟩ := h
    obtain ⟨h1, h2⟩ := seqs_mem n k u hu
    refine ⟨by simp [h1], okS_mem.2 fun x hx => ?_⟩
    rcases List.mem_cons.1 hx with rfl | hx
    · omega
    · exact okS_mem.1 h2 x hx
/-! ### Kept -/
end Go.Plan
