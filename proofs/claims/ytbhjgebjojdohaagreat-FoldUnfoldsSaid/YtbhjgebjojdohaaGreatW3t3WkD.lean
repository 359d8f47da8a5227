import Derived.Test.YtbhjgebjojdohaaGreatW3t3WkA
namespace Go.Ev
open Go Go.Eng
set_option maxRecDepth 1000000
def en4:Ent:=⟨49,[.agg #[ii 100000,ii 2,ii 1000,ii 1250,ii 4],.agg #[ii 3,ii 1,ii 1,ii 13107,ii 13108,ii 0,ii 1,ii 0,ii 0,ii 0,ii 0,ii 0,ii 0,ii 0],ii 1,ii 100000],.ro 130 [ii (-2),ii (-80000),ii (-79999),ii (-1),ii (-40000),ii (-39999),ii (0),ii (0),ii (1),ii (1),ii (40000),ii (40001),ii (2),ii (80000),ii (80001)] 5 (.bool true)⟩
theorem B42:X0 Go.Proofs.Tryz.prog en4.res (ev Go.Proofs.Tryz.prog A7f (Rq []) 5000 (.call en4.f en4.args) start)=true:=by kernel_rfl
theorem B43:EntOk Go.Proofs.Tryz.prog en4:=X1 A93 A1w (fun x h=>by cases h) (by kernel_rfl) B42
end Go.Ev
