/- The plain side of chapter 6, part 7: gaps are missing just where jobs are, and are not longer where times are not. -/
import Derived.Test.YtejffembnkojjaaC10PlanS
namespace Go.Plan
set_option linter.unusedVariables false
set_option linter.unusedSimpArgs false
/-! ### Less time -/
end Go.Plan
