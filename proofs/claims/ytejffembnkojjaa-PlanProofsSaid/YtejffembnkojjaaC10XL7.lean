/- Chapter 6, plain laws, part 7: the document's sequences and best round; the law PlanBests. -/
import Derived.Test.YtejffembnkojjaaC10XL5
import Derived.Test.YtejffembnkojjaaC10XL6
namespace Go.Proofs.Ytejffembnkojjaa
open Go Go.Eng Go.Plan
set_option linter.unusedVariables false
set_option linter.unusedSimpArgs false
set_option maxRecDepth 10000
/-! ### Sequences -/
/-! ### The document's rounds that are kept -/
/-! ### The law -/
end Go.Proofs.Ytejffembnkojjaa
