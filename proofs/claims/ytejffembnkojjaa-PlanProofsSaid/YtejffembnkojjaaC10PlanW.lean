/- The plain side of chapter 6, part 9: one more sweep in a round. -/
import Derived.Test.YtejffembnkojjaaC10PlanV
namespace Go.Plan
set_option linter.unusedVariables false
set_option linter.unusedSimpArgs false
/-! ### The sequence with one more job -/
section
variable {r : RadarD} {l : List JobD} {e : JobD} {s : List Int}
end
end Go.Plan
