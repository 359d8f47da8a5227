/- Chapter 6, plain laws, part 7: the document's sequences and best round; the law PlanBests. -/
import Derived.Test.YtejffembnkojjaaC7XL5
import Derived.Test.YtejffembnkojjaaC7XL6
namespace Go.Proofs.Ytejffembnkojjaa
open Go Go.Eng Go.Plan
set_option linter.unusedVariables false
set_option linter.unusedSimpArgs false
set_option maxRecDepth 10000
/-! ### Sequences -/
/-! ### The document's rounds that are kept -/
theorem rkept_loop {a : List Int} {e : Int} (h : a.length ≤ 1000) : ∀ n k : Nat, k ≤ a.length → a.length < n + k → ref06_kept_L2 (a, e) n (k : Int) = some ((a.drop k).all (fun x => decide (0 ≤ x)) && (e == 0)) := by
  intro n
  induction n with
  | zero => intro k h1 h2; omega
  | succ n ih =>
    intro k hk0 hk
    simp only [ref06_kept_L2, ref06_kept_B2, ref06_kept_K1]
    by_cases hc : k < a.length
    · have hd : a.drop k = a.getD k 0 :: a.drop (k + 1) := by
        rw [List.drop_eq_getElem_cons hc, List.getD_eq_getElem?_getD, List.getElem?_eq_getElem hc]; rfl
      rw [bifT (by simp; omega), getb 0 (by omega), Int.toNat_natCast, hd, List.all_cons]
      by_cases hz : a.getD k 0 < 0
      · rw [bifT (decide_eq_true hz), decide_eq_false (show ¬ 0 ≤ a.getD k 0 by omega)]; rfl
      · rw [bifF (decide_eq_false hz), decide_eq_true (show 0 ≤ a.getD k 0 by omega), ckb (by omega), show (k : Int) + 1 = ((k + 1 : Nat) : Int) by omega, ih (k + 1) (by omega) (by omega)]; rfl
    · rw [bifF (by simp; omega), List.drop_of_length_le (by omega)]; rfl
/-- Whether a round is kept, or is none. -/
def keptJ (r : RadarD) (l : List JobD) (s : List Int) : Bool := (judgeL r l s).all (fun x => decide (0 ≤ x)) && (judgeE r l s == 0)
theorem ref_kept_eq {F : Nat} (hF : 130 ≤ F) (r : ref06_Radar) (l : List ref06_Job) (s : List Int) : ref06_kept F r l s = some (keptJ (rr r) (ej l) s) := by
  have hl := judgeL_len (r := rr r) (l := ej l) (s := s)
  rw [ref06_kept, ref_Judge_eq hF, Option.bind_some]
  exact rkept_loop (by omega) F 0 (by omega) (by omega)
/-! ### The law -/
end Go.Proofs.Ytejffembnkojjaa
