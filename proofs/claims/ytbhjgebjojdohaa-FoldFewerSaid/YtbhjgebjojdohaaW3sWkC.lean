import Derived.Test.YtbhjgebjojdohaaW3sWkA
namespace Go.Ev
open Go Go.Eng
set_option maxRecDepth 1000000
def en3 : Ent:=⟨91,[.agg #[ii 100000,ii 2,ii 1000,ii 1250,ii 4],.agg #[ii 3,ii 1,ii 1,ii 13107,ii 13108,ii 0,ii 1,ii 0,ii 0,ii 0,ii 0,ii 0,ii 0,ii 0],ii 0,ii 100000],.ro 178 [ii (-2),ii (-90001),ii (-89999),ii (-1),ii (-40001),ii (-39999),ii (0),ii (9999),ii (10001),ii (1),ii (59999),ii (60001)] 4 (.bool true)⟩
theorem en3_is : entIs Go.Proofs.Try.prog en3.res (ev Go.Proofs.Try.prog okm3 (tblOf []) 5000 (.call en3.f en3.args) start) = true:=by kernel_rfl
theorem en3_ok : EntOk Go.Proofs.Try.prog en3:=ent_of hmo3 hall3 (fun x h=>by cases h) (by kernel_rfl) en3_is
end Go.Ev
