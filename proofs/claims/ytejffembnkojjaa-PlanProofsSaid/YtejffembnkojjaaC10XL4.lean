/- Chapter 6, plain laws, part 4: the document's judging; what is done at a time; the law PlanJudges. -/
import Derived.Test.YtejffembnkojjaaC10XL3
import Derived.Test.YtejffembnkojjaaC10PlanQ
namespace Go.Proofs.Ytejffembnkojjaa
open Go Go.Eng Go.Plan
set_option linter.unusedVariables false
set_option linter.unusedSimpArgs false
set_option maxRecDepth 10000
/-! ### The document's gap -/
end Go.Proofs.Ytejffembnkojjaa
