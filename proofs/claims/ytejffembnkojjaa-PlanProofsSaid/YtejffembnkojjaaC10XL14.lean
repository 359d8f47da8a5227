/- Chapter 6, plain laws, part 14: one more sweep, on the plain program. -/
import Derived.Test.YtejffembnkojjaaC10XL8
import Derived.Test.YtejffembnkojjaaC10PlanW
import Derived.Test.YtejffembnkojjaaC10PlanT
namespace Go.Proofs.Ytejffembnkojjaa
open Go Go.Eng Go.Plan
set_option linter.unusedVariables false
set_option linter.unusedSimpArgs false
set_option maxRecDepth 10000
/-! ### The least number -/
/-! ### Where a job lies around an element -/
/-! ### What a round can bear -/
end Go.Proofs.Ytejffembnkojjaa
