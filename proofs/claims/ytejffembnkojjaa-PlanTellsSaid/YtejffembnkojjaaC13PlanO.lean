/- The plain side of chapter 6, part 3: gaps by occurrences. -/
import Derived.Test.YtejffembnkojjaaC13PlanN
namespace Go.Plan
set_option linter.unusedVariables false
set_option linter.unusedSimpArgs false
theorem mx_comm (a b : Int) : mx a b = mx b a := by unfold mx; repeat' split <;> omega
/-! ### The arrays of the program -/
end Go.Plan
