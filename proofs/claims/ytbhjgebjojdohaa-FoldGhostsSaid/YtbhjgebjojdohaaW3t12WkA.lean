import Derived.Test.YtbhjgebjojdohaaW3t12VC
import Derived.Test.YtbhjgebjojdohaaProg
set_option linter.unusedVariables false
set_option linter.unusedSimpArgs false
set_option linter.unusedSectionVars false
namespace Go.Ev
open Go Go.Eng
set_option maxRecDepth 1000000
def Vz:Nat:=1427247692705959881058285969449495136382746620
theorem Xa:Go.Proofs.Try.prog.follows .mixedOrders=true:=by kernel_rfl
theorem Rq:L7 Go.Proofs.Try.prog Vz=true:=by kernel_rfl
def ii (n:Int):Value:=.int .i64 n
def en1:Ent:=⟨14,[.agg #[ii 100000,ii 1,ii 1000,ii 0,ii 4],.agg #[ii 3,ii 1,ii 1,ii 16384,ii 16384,ii 0,ii 0,ii 0,ii 0,ii 0,ii 0,ii 0,ii 0,ii 0],ii 100000],
 .ro 79 [ii (-2),ii 0,ii (-87500),ii (-87500),ii (-1),ii 0,ii (-37500),ii (-37500),ii 0,ii 0,ii 12500,ii 12500,ii 1,ii 0,ii 62500,ii 62500] 4 (ii 0)⟩
def en2:Ent:=⟨14,[.agg #[ii 100000,ii 2,ii 1000,ii 1250,ii 4],.agg #[ii 3,ii 1,ii 1,ii 13107,ii 13108,ii 0,ii 1,ii 0,ii 0,ii 0,ii 0,ii 0,ii 0,ii 0],ii 100000],
 .ro 79 [ii (-1),ii (-1),ii (-40000),ii (-39999)] 1 (ii 0)⟩
end Go.Ev
