/- The plain side of chapter 6, part 7: gaps are missing just where jobs are, and are not longer where times are not. -/
import Derived.Test.YtejffembnkojjaaC13PlanS
namespace Go.Plan
set_option linter.unusedVariables false
set_option linter.unusedSimpArgs false
/-! ### Less time -/
theorem atD_step {r : RadarD} {l : List JobD} {s : List Int} {k : Nat} (h : k + 1 < s.length) : (atD r l s).getD (k + 1) 0 = (atD r l s).getD k 0 + tk r l (s.getD k 0) + mv r l (s.getD k 0) (s.getD (k + 1) 0) := by
  rw [atD_start r l s h, atD_start r l s (show k < s.length by omega), ← take_snoc (d := 0) (show k < s.length by omega), startD_snoc]
end Go.Plan
