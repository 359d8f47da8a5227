import Derived.Test.YtbhjgebjojdohaaGreatW3t3VC
import Derived.Test.YtbhjgebjojdohaaGreatProg
namespace Go.Ev
open Go Go.Eng
set_option maxRecDepth 1000000
def A7f:Nat:=41538374865860768812553942264184756
theorem A93:Go.Proofs.Tryz.prog.follows .mixedOrders=true:=by kernel_rfl
theorem A1w:Vh Go.Proofs.Tryz.prog A7f=true:=by kernel_rfl
def ii (n:Int):Value:=.int .i64 n
def en1:Ent:=⟨8,[.agg #[ii 100000,ii 1,ii 1000,ii 0,ii 4],.agg #[ii 3,ii 1,ii 1,ii 16384,ii 16384,ii 0,ii 0,ii 0,ii 0,ii 0,ii 0,ii 0,ii 0,ii 0],ii 100000],
 .ro 60 [ii (-2),ii 0,ii (-87500),ii (-87500),ii (-1),ii 0,ii (-37500),ii (-37500),ii 0,ii 0,ii 12500,ii 12500,ii 1,ii 0,ii 62500,ii 62500] 4 (ii 0)⟩
def en2:Ent:=⟨8,[.agg #[ii 100000,ii 2,ii 1000,ii 1250,ii 4],.agg #[ii 3,ii 1,ii 1,ii 13107,ii 13108,ii 0,ii 1,ii 0,ii 0,ii 0,ii 0,ii 0,ii 0,ii 0],ii 100000],
 .ro 60 [ii (-1),ii (-1),ii (-40000),ii (-39999)] 1 (ii 0)⟩
end Go.Ev
