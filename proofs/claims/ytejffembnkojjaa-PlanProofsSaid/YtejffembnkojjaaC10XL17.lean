/- Chapter 6, plain laws, part 17: the law PlanMore. -/
import Derived.Test.YtejffembnkojjaaC10XL15
import Derived.Test.YtejffembnkojjaaC10XL12
namespace Go.Proofs.Ytejffembnkojjaa
open Go Go.Eng Go.Plan
set_option linter.unusedVariables false
set_option linter.unusedSimpArgs false
set_option linter.unnecessarySimpa false
set_option maxRecDepth 10000
/-! ### The sequence is made -/
/-! ### The law -/
end Go.Proofs.Ytejffembnkojjaa
