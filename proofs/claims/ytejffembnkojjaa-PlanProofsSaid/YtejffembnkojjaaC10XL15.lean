/- Chapter 6, plain laws, part 15: where one more sweep can be done, on the plain program. -/
import Derived.Test.YtejffembnkojjaaC10XL14
namespace Go.Proofs.Ytejffembnkojjaa
open Go Go.Eng Go.Plan
set_option linter.unusedVariables false
set_option linter.unusedSimpArgs false
set_option maxRecDepth 10000
theorem gdT {α : Type} {g : Bool} {o : Option α} {d : α} (h : g = true) : gd g o d = o := by subst h; rfl
theorem gdF {α : Type} {g : Bool} {o : Option α} {d : α} (h : g = false) : gd g o d = some d := by subst h; rfl
end Go.Proofs.Ytejffembnkojjaa
