import Derived.Test.YtbhjgebjojdohaaW3t7WkA
set_option linter.unusedVariables false
set_option linter.unusedSimpArgs false
set_option linter.unusedSectionVars false
namespace Go.Ev
open Go Go.Eng
set_option maxRecDepth 1000000
theorem A4t:Pp Go.Proofs.Try.prog en1.res (ev Go.Proofs.Try.prog Za (K7 []) 5000 (.call en1.f en1.args) start)=true:=by kernel_rfl
theorem A4u:EntOk Go.Proofs.Try.prog en1:=Pq A0v Uq (fun x h=>by cases h) (by kernel_rfl) A4t
end Go.Ev
