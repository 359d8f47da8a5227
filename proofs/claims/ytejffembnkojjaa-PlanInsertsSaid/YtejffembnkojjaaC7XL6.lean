/- Chapter 6, plain laws, part 6: late jobs, the sequences that begin well, the best round, on the plain programs. -/
import Derived.Test.YtejffembnkojjaaC7XL3
import Derived.Test.YtejffembnkojjaaC7PlanT
namespace Go.Proofs.Ytejffembnkojjaa
open Go Go.Eng Go.Plan
set_option linter.unusedVariables false
set_option linter.unusedSimpArgs false
set_option maxRecDepth 10000
/-! ### Late -/
/-! ### Iterators -/
/-! ### Kept -/
/-! ### Best -/
end Go.Proofs.Ytejffembnkojjaa
