/- The plain side of chapter 6, part 8: rounds that are turned or repeated. -/
import Derived.Test.YtejffembnkojjaaC10PlanU
namespace Go.Plan
set_option linter.unusedVariables false
set_option linter.unusedSimpArgs false
/-! ### Gaps of lists of beginnings -/
/-! ### Repeated rounds -/
end Go.Plan
