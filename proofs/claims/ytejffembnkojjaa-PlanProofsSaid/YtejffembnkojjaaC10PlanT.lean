/- The plain side of chapter 6, part 6: sequences in order, with and without those that begin in vain. -/
import Derived.Test.YtejffembnkojjaaC10PlanS
namespace Go.Plan
set_option linter.unusedVariables false
set_option linter.unusedSimpArgs false
def ext (n : Nat) : Nat → List Int → List (List Int)
  | 0, p => [p]
  | k + 1, p => (List.range n).flatMap fun j : Nat => ext n k (p ++ [(j : Int)])
/-! ### Kept -/
end Go.Plan
