import Derived.Test.YtbhjgebjojdohaaW3t12WkA
set_option linter.unusedVariables false
set_option linter.unusedSimpArgs false
set_option linter.unusedSectionVars false
namespace Go.Ev
open Go Go.Eng
set_option maxRecDepth 1000000
def en3:Ent:=⟨91,[.agg #[ii 100000,ii 2,ii 1000,ii 1250,ii 4],.agg #[ii 3,ii 1,ii 1,ii 13107,ii 13108,ii 0,ii 1,ii 0,ii 0,ii 0,ii 0,ii 0,ii 0,ii 0],ii 0,ii 100000],.ro 178 [ii (-2),ii (-90001),ii (-89999),ii (-1),ii (-40001),ii (-39999),ii (0),ii (9999),ii (10001),ii (1),ii (59999),ii (60001)] 4 (.bool true)⟩
theorem A06:Mh Go.Proofs.Try.prog en3.res (ev Go.Proofs.Try.prog Vz (H3 []) 5000 (.call en3.f en3.args) start)=true:=by kernel_rfl
theorem A07:EntOk Go.Proofs.Try.prog en3:=Mi Xa Rq (fun x h=>by cases h) (by kernel_rfl) A06
end Go.Ev
