import Derived.Test.YtfkeddejdahnhaaGreatDoorRows
import Derived.Test.YtfkeddejdahnhaaGreatDoorQ3WnG
import Derived.LaidLaws
import Derived.LaidHandle
import Derived.Stop.LaidErr
import Derived.Lib.LaidTab
namespace Go.Proofs.YtfkeddejdahnhaaGreatDoor
open Go Go.RowKit Go.Eng
set_option maxRecDepth 100000
abbrev LD:List (String×DataW Unit):=[("math/bits.deBruijn32tab", Rows.laid_math_bits_deBruijn32tab),("math/bits.deBruijn64tab", Rows.laid_math_bits_deBruijn64tab),("internal/strconv.uint64pow10", Rows.laid_internal_strconv_uint64pow10)]
theorem B2o:(Rows.laid_internal_strconv_uint64pow10:DataW Unit)=Lib.tabData .u64 Lib.pow10Tab:=by rfl
theorem B8x {W:World} (h:laidMetH Tryz.prog LD W):Lib.TabIs Tryz.prog W "internal/strconv.uint64pow10" .u64 Lib.pow10Tab:=by
 have h':laidMet Tryz.prog LD W:=h;have h2:=laidMet.tail (laidMet.tail h');rw [B2o] at h2;exact Lib.tabIs_of_head (g:=1) (t:=269) (e:=237) (n:=20) (by kernel_rfl) (by kernel_rfl) (by kernel_rfl) (by kernel_rfl) (by kernel_rfl) (by kernel_rfl) h2
def B6x (d:DataW Unit):Array Value:=match d with
 | .agg l=>(l.map λx=>match x with|.lit (.int k n)=>Value.int k n|_=>.bool false).toArray
 | _=>#[]
noncomputable def A2v (os:Os):World :=
 let w0:=World.holding Tryz.prog os ⟨#[],#[],[]⟩
 let put (d:DataW Unit) (h:Array Obj) (i:Nat):Array Obj:=h.modify i fun
  | .cells _ t frozen=>.cells (B6x d) t frozen
  | o=>o
 { w0 with heap:=put Rows.laid_math_bits_deBruijn32tab (put Rows.laid_math_bits_deBruijn64tab (put Rows.laid_internal_strconv_uint64pow10 w0.heap 1) 3) 2 }
theorem A2d (os:Os) (args:Array Value):laidMetH Tryz.prog LD ((A2v os).forCall (λ_ _=>0) ⟨#[],args,[]⟩).memory :=
 show laidMet Tryz.prog LD _ from laidMet_of_run' 8 (by kernel_rfl) (by kernel_rfl)
end Go.Proofs.YtfkeddejdahnhaaGreatDoor
