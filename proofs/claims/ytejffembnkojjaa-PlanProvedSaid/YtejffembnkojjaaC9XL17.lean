/- Chapter 6, plain laws, part 17: the law PlanMore. -/
import Derived.Test.YtejffembnkojjaaC9XL15
import Derived.Test.YtejffembnkojjaaC9XL12
namespace Go.Proofs.Ytejffembnkojjaa
open Go Go.Eng Go.Plan
set_option linter.unusedVariables false
set_option linter.unusedSimpArgs false
set_option linter.unnecessarySimpa false
set_option maxRecDepth 10000
/-! ### The sequence is made -/
/-! ### The law -/
theorem lkept_loop {a : List Int} {e : Int} (h : a.length ≤ 1000) : ∀ n k : Nat, k ≤ a.length → a.length < n + k → law06_kept_L2 (a, e) n (k : Int) = some (!anyNeg (a.drop k) && (e == 0)) := by
  intro n
  induction n with
  | zero => intro k h1 h2; omega
  | succ n ih =>
    intro k hk0 hk
    simp only [law06_kept_L2, law06_kept_B2, law06_kept_K1]
    by_cases hc : k < a.length
    · have hd : a.drop k = a.getD k 0 :: a.drop (k + 1) := by
        rw [List.drop_eq_getElem_cons hc, List.getD_eq_getElem?_getD, List.getElem?_eq_getElem hc]; rfl
      unfold anyNeg at ih ⊢
      rw [bifT (by simp; omega), getb 0 (by omega), Int.toNat_natCast, hd, List.any_cons]
      by_cases hz : a.getD k 0 < 0
      · rw [bifT (decide_eq_true hz), decide_eq_true hz]; rfl
      · rw [bifF (decide_eq_false hz), decide_eq_false hz, Bool.false_or, ckb (by omega), show (k : Int) + 1 = ((k + 1 : Nat) : Int) by omega, ih (k + 1) (by omega) (by omega)]
    · rw [bifF (by simp; omega), List.drop_of_length_le (by omega)]; rfl
theorem lkept_eq {F : Nat} (hF : 100 ≤ F) (r : plan_Radar) (l : List plan_Job) (h7 : l.length ≤ 7) (s : List Int) : law06_kept F r l s = some (!anyNeg (judgeL (pr r) (dj l) s) && (judgeE (pr r) (dj l) s == 0)) := by
  have hl : (judgeL (pr r) (dj l) s).length ≤ 7 := by
    unfold judgeL
    split
    · rw [slackD_len', djl]; omega
    · simp
  rw [law06_kept, Judge_eq (by omega), Option.bind_some]
  exact lkept_loop (by omega) F 0 (by omega) (by omega)
end Go.Proofs.Ytejffembnkojjaa
