import Derived.Test.YtbhjgebjojdohaaGreatW3t3WkA
namespace Go.Ev
open Go Go.Eng
set_option maxRecDepth 1000000
theorem B3w:X0 Go.Proofs.Tryz.prog en1.res (ev Go.Proofs.Tryz.prog A7f (Rq []) 5000 (.call en1.f en1.args) start)=true:=by kernel_rfl
theorem B3x:EntOk Go.Proofs.Tryz.prog en1:=X1 A93 A1w (fun x h=>by cases h) (by kernel_rfl) B3w
end Go.Ev
