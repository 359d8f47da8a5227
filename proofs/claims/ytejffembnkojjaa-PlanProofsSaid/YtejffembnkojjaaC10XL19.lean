/- Chapter 6, plain laws, part 19: the law PlanProved. -/
import Derived.Test.YtejffembnkojjaaC10XL18
import Derived.Test.YtejffembnkojjaaC10XL17
import Derived.Test.YtejffembnkojjaaC10XL7
namespace Go.Proofs.Ytejffembnkojjaa
open Go Go.Eng Go.Plan
set_option linter.unusedVariables false
set_option linter.unusedSimpArgs false
set_option maxRecDepth 10000
theorem firstLate_valid {r : RadarD} {l : List JobD} {y : List Int} {q : Nat} (h : firstLate r l y = some q) : validB r l y (q : Int) = true := by
  unfold firstLate at h
  have h1 := List.mem_of_find?_eq_some h
  have h2 := List.find?_some h
  rw [List.mem_range] at h1
  unfold validB
  rw [inB_iff.2 (by omega), Bool.true_and]
  exact h2
theorem anyM_false {cs : List CutD} (h : anyM cs = false) : ∀ c ∈ cs, 0 ≤ c.2 := by
  intro c hc
  unfold anyM at h
  rw [List.any_eq_false] at h
  have := h c hc
  simp only [decide_eq_true_eq] at this
  omega
/-- The cuts of a search are accepted. -/
theorem verify_cutL {r : RadarD} {l : List JobD} (hc : checkE r l = 0) {k : Nat} (h1 : 1 ≤ k) (h8 : k ≤ 8) (ha : anyM (cutL l.length (firstLate r l) k []) = false) (h5 : (cutL l.length (firstLate r l) k []).length ≤ 5000) : verifyR r l (cutL l.length (firstLate r l) k []) = 0 := by
  have hl := (checkE_ok hc).2.1
  unfold verifyR
  rw [if_pos hc, if_neg (by omega), if_pos]
  have hne := cutL_ne hl.1 (FL := firstLate r l) k [] h1
  have := cov_cutL hl.1 (FL := firstLate r l) (V := validB r l) (fun y q hq => firstLate_valid hq) k 15 [] [] h1 (by omega) (anyM_false ha)
  rw [List.append_nil] at this
  cases hL : cutL l.length (firstLate r l) k [] with
  | nil => exact absurd hL hne
  | cons c cs =>
    rw [hL] at this
    rw [cov_step, if_pos (by simp), if_neg (by simp)]
    exact this
end Go.Proofs.Ytejffembnkojjaa
