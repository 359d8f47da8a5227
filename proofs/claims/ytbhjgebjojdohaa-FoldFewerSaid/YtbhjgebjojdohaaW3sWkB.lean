import Derived.Test.YtbhjgebjojdohaaW3sWkA
namespace Go.Ev
open Go Go.Eng
set_option maxRecDepth 1000000
theorem en1_is : entIs Go.Proofs.Try.prog en1.res (ev Go.Proofs.Try.prog okm3 (tblOf []) 5000 (.call en1.f en1.args) start) = true:=by kernel_rfl
theorem en1_ok : EntOk Go.Proofs.Try.prog en1:=ent_of hmo3 hall3 (fun x h=>by cases h) (by kernel_rfl) en1_is
end Go.Ev
