import Derived.Test.YtbhjgebjojdohaaW3t10WkA
namespace Go.Ev
open Go Go.Eng
set_option maxRecDepth 1000000
theorem A8j:Tm Go.Proofs.Try.prog en1.res (ev Go.Proofs.Try.prog A2v (P6 []) 5000 (.call en1.f en1.args) start)=true:=by kernel_rfl
theorem A8k:EntOk Go.Proofs.Try.prog en1:=Tn A4i Ya (fun x h=>by cases h) (by kernel_rfl) A8j
end Go.Ev
