import Derived.Test.YtbhjgebjojdohaaGreatW3t3WkA
namespace Go.Ev
open Go Go.Eng
set_option maxRecDepth 1000000
def en3:Ent:=⟨49,[.agg #[ii 100000,ii 2,ii 1000,ii 1250,ii 4],.agg #[ii 3,ii 1,ii 1,ii 13107,ii 13108,ii 0,ii 1,ii 0,ii 0,ii 0,ii 0,ii 0,ii 0,ii 0],ii 0,ii 100000],.ro 130 [ii (-2),ii (-90001),ii (-89999),ii (-1),ii (-40001),ii (-39999),ii (0),ii (9999),ii (10001),ii (1),ii (59999),ii (60001)] 4 (.bool true)⟩
theorem B40:X0 Go.Proofs.Tryz.prog en3.res (ev Go.Proofs.Tryz.prog A7f (Rq []) 5000 (.call en3.f en3.args) start)=true:=by kernel_rfl
theorem B41:EntOk Go.Proofs.Tryz.prog en3:=X1 A93 A1w (fun x h=>by cases h) (by kernel_rfl) B40
end Go.Ev
