/- The plain side of chapter 6, part 4: times are positive, beginnings rise, the doc's states. -/
import Derived.Test.YtejffembnkojjaaC10PlanO
namespace Go.Plan
set_option linter.unusedVariables false
set_option linter.unusedSimpArgs false
/-! ### The document's gap -/
/-! ### Where -/
/-- The last beginning up to a time. -/
structure At (a : List Int) (t : Int) (e : Nat) : Prop where
  lt : e < a.length
  le : a.getD e 0 ≤ t
  gt : ∀ i, e < i → i < a.length → t < a.getD i 0
end Go.Plan
