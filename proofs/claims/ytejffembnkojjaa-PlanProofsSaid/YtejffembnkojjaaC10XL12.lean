/- Chapter 6, plain laws, part 12: how long jobs wait, by the laws' own reckoning; the law PlanKeeps. -/
import Derived.Test.YtejffembnkojjaaC10XL10
import Derived.Test.YtejffembnkojjaaC10PlanV
namespace Go.Proofs.Ytejffembnkojjaa
open Go Go.Eng Go.Plan
set_option linter.unusedVariables false
set_option linter.unusedSimpArgs false
set_option maxRecDepth 10000
/-! ### Waits -/
end Go.Proofs.Ytejffembnkojjaa
