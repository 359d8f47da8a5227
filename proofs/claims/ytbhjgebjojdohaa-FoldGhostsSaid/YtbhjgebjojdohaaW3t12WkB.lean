import Derived.Test.YtbhjgebjojdohaaW3t12WkA
set_option linter.unusedVariables false
set_option linter.unusedSimpArgs false
set_option linter.unusedSectionVars false
namespace Go.Ev
open Go Go.Eng
set_option maxRecDepth 1000000
theorem A02:Mh Go.Proofs.Try.prog en1.res (ev Go.Proofs.Try.prog Vz (H3 []) 5000 (.call en1.f en1.args) start)=true:=by kernel_rfl
theorem A03:EntOk Go.Proofs.Try.prog en1:=Mi Xa Rq (fun x h=>by cases h) (by kernel_rfl) A02
end Go.Ev
