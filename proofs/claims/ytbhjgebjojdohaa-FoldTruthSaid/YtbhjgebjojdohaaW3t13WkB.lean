import Derived.Test.YtbhjgebjojdohaaW3t13WkA
namespace Go.Ev
open Go Go.Eng
set_option maxRecDepth 1000000
theorem A7k:S8 Go.Proofs.Try.prog en1.res (ev Go.Proofs.Try.prog A1s (Mn []) 5000 (.call en1.f en1.args) start)=true:=by kernel_rfl
theorem A7l:EntOk Go.Proofs.Try.prog en1:=S9 A3e Wp (fun x h=>by cases h) (by kernel_rfl) A7k
end Go.Ev
