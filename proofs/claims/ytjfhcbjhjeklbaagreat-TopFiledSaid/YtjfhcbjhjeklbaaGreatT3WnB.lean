import Derived.Test.YtjfhcbjhjeklbaaGreatT3XD
import Derived.Shelf.Bytes.SlIndexAt
import Derived.WalkKit
set_option linter.unusedVariables false
set_option linter.unusedSimpArgs false
set_option linter.unusedSectionVars false
namespace Go.Proofs.YtjfhcbjhjeklbaaGreat
open Go Go.RowKit Go.Eng Go.Shelf Go.Lib
set_option linter.unusedVariables false
set_option maxHeartbeats 4000000
set_option maxRecDepth 100000
theorem Pq (p0:List Int) (p1 res:Int) (h:Bp p0 p1=res) (μ:Frz) (w0:World) (hm:FrzAt μ w0) {ad1:Option Addr} {cap2:Nat} (hA3:ArrM μ 1 (fK .u8) ad1 cap2 p0):Calls Tryz.prog 74 #[sv ad1 p0 cap2,.int .u8 p1] w0 (λe w=>e=.returned (iv res)/\Ext w0 w):=by
 subst h;have ha:=hA3 w0 hm;obtain ⟨_,ad',cap',he,_,_,_,hc⟩:=ha
 cases he
 show Calls Tryz.prog 74 #[.slice ad1 p0.length cap2,.int .u8 p1] w0 (λe w=>e=.returned (.int .i64 (Lib.indexByte (Lib.bytesOf p0) p1.toNat.toUInt8))/\Ext w0 w);have hr:(Extern.BytealgIndexByte.indexByte #[.slice ad1 p0.length cap2,.int .u8 p1]).run Tryz.prog w0=.ok (.int .i64 (Lib.indexByte (Lib.bytesOf p0) p1.toNat.toUInt8)) w0:=by
  cases ad1 with
  | none =>
   have hl:p0=[]:=by
    rcases Nat.eq_zero_or_pos p0.length with h0|h0
    ·exact List.eq_nil_of_length_eq_zero h0
    ·obtain ⟨a,ha,_⟩:=hc h0;cases ha
   subst hl;exact Lib.run_indexByteNil w0 _ _ _
  | some a =>
   refine Lib.run_indexByteAt w0 a _ _ p0 rfl (λi hi=>?_) p1;obtain ⟨b,hb,_,h⟩:=hc (by omega)
   cases hb
   refine h i _ ?_;show (p0.flatMap λx=>[Value.int .u8 x])[i]? = _;rw [A5g,List.getElem?_map,List.getD_eq_getElem?_getD,List.getElem?_eq_getElem hi];rfl
 generalize Lib.indexByte (Lib.bytesOf p0) p1.toNat.toUInt8=R at *;generalize p0.length=n at *
 go_enter Tryz.func74,Tryz.ntmps74
 go_wp2
 rw [run_callFunc_extern Tryz.func104 (by kernel_rfl) (by kernel_rfl) (by kernel_rfl) (e:=Extern.BytealgIndexByte.indexByte) (by kernel_rfl),hr];simp only [Result.andThen];rw [Oper.upon_value]
 go_wp2
 go_ret
 exact ⟨rfl,Ext.refl _⟩
end Go.Proofs.YtjfhcbjhjeklbaaGreat
