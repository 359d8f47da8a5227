import Derived.Test.YtbhjgebjojdohaaW3t12WkA
set_option linter.unusedVariables false
set_option linter.unusedSimpArgs false
set_option linter.unusedSectionVars false
namespace Go.Ev
open Go Go.Eng
set_option maxRecDepth 1000000
def en4:Ent:=⟨91,[.agg #[ii 100000,ii 2,ii 1000,ii 1250,ii 4],.agg #[ii 3,ii 1,ii 1,ii 13107,ii 13108,ii 0,ii 1,ii 0,ii 0,ii 0,ii 0,ii 0,ii 0,ii 0],ii 1,ii 100000],.ro 178 [ii (-2),ii (-80000),ii (-79999),ii (-1),ii (-40000),ii (-39999),ii (0),ii (0),ii (1),ii (1),ii (40000),ii (40001),ii (2),ii (80000),ii (80001)] 5 (.bool true)⟩
theorem A08:Mh Go.Proofs.Try.prog en4.res (ev Go.Proofs.Try.prog Vz (H3 []) 5000 (.call en4.f en4.args) start)=true:=by kernel_rfl
theorem A09:EntOk Go.Proofs.Try.prog en4:=Mi Xa Rq (fun x h=>by cases h) (by kernel_rfl) A08
end Go.Ev
