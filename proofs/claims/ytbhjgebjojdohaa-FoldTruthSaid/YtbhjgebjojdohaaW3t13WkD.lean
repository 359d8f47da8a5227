import Derived.Test.YtbhjgebjojdohaaW3t13WkA
namespace Go.Ev
open Go Go.Eng
set_option maxRecDepth 1000000
def en4:Ent:=⟨91,[.agg #[ii 100000,ii 2,ii 1000,ii 1250,ii 4],.agg #[ii 3,ii 1,ii 1,ii 13107,ii 13108,ii 0,ii 1,ii 0,ii 0,ii 0,ii 0,ii 0,ii 0,ii 0],ii 1,ii 100000],.ro 178 [ii (-2),ii (-80000),ii (-79999),ii (-1),ii (-40000),ii (-39999),ii (0),ii (0),ii (1),ii (1),ii (40000),ii (40001),ii (2),ii (80000),ii (80001)] 5 (.bool true)⟩
theorem A7q:S8 Go.Proofs.Try.prog en4.res (ev Go.Proofs.Try.prog A1s (Mn []) 5000 (.call en4.f en4.args) start)=true:=by kernel_rfl
theorem A7r:EntOk Go.Proofs.Try.prog en4:=S9 A3e Wp (fun x h=>by cases h) (by kernel_rfl) A7q
end Go.Ev
