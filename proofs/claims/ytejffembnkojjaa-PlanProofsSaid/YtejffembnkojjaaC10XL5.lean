/- Chapter 6, plain laws, part 5: what is done at a time; the law PlanJudges. -/
import Derived.Test.YtejffembnkojjaaC10XL4
namespace Go.Proofs.Ytejffembnkojjaa
open Go Go.Eng Go.Plan
set_option linter.unusedVariables false
set_option linter.unusedSimpArgs false
set_option maxRecDepth 10000
/-- The place of a number in a rising list. -/
structure Low (a : List Int) (t : Int) (i : Nat) : Prop where
  le : i ≤ a.length
  lt : ∀ k, k < i → a.getD k 0 < t
  ge : ∀ k, i ≤ k → k < a.length → t ≤ a.getD k 0
theorem _root_.Go.Plan.At.low {a : List Int} {t : Int} {e : Nat} (h : At a t e) (hr : ∀ i k, i < k → k < a.length → a.getD i 0 < a.getD k 0) : Low a t (if a.getD e 0 = t then e else e + 1) := by
  have hl := h.lt
  have hle := h.le
  split
  · rename_i he
    exact ⟨by omega, fun k hk => by have := hr k e hk hl; omega, fun k hk hk2 => by
      rcases Nat.lt_or_eq_of_le hk with h2 | h2
      · have := h.gt k h2 hk2; omega
      · subst h2; omega⟩
  · rename_i he
    exact ⟨by omega, fun k hk => by
      rcases Nat.lt_or_ge k e with h2 | h2
      · have := hr k e h2 hl; omega
      · have : k = e := by omega
        subst this; omega, fun k hk hk2 => by have := h.gt k (by omega) hk2; omega⟩
/-! ### The law -/
end Go.Proofs.Ytejffembnkojjaa
