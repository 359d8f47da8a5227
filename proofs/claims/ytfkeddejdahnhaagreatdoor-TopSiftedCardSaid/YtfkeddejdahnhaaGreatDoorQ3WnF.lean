import Derived.Test.YtfkeddejdahnhaaGreatDoorQ3XD
import Derived.Test.YtfkeddejdahnhaaGreatDoorQ3WnG
import Derived.Test.YtfkeddejdahnhaaGreatDoorQ3WnM
import Derived.WalkKit
import Derived.WalkMore
import Derived.BigQuiet
import Derived.Laws.Externs
import Derived.Lib.AppendIntMem
set_option linter.unusedVariables false
set_option linter.unusedSimpArgs false
set_option linter.unusedSectionVars false
namespace Go.Proofs.YtfkeddejdahnhaaGreatDoor
open Go Go.RowKit Go.Eng Go.Shelf
set_option maxHeartbeats 4000000
set_option maxRecDepth 100000
theorem Wp (p0:ByteArray) (p1 res:Int) (h:Hs p0 p1=res) (μ:Frz) (w0:World) (hm:FrzAt μ w0):Calls Tryz.prog 111 #[.string p0,.int .u8 p1] w0 (λe w=>e=.returned (.int .i64 res)/\Ext w0 w):=by
 subst h;unfold Hs;have hr:=Lib.run_indexByteString (P:=Tryz.prog) p0 p1 w0;generalize Lib.indexByte p0.data.toList p1.toNat.toUInt8=R at *;have h67:Calls Tryz.prog 140 #[.string p0,.int .u8 p1] w0 (λe w'=>e=.returned (.int .i64 R)/\w'=w0):=by
  go_enter Tryz.func140,Tryz.ntmps140
  go_wp2
  rw [run_callFunc_extern Tryz.func163 (by kernel_rfl) (by kernel_rfl) (by kernel_rfl) (e:=Extern.BytealgIndexByte.indexByte) (by kernel_rfl),hr];simp only [Result.andThen];rw [Oper.upon_value]
  go_wp2
  go_ret
  exact ⟨rfl,rfl⟩
 go_enter Tryz.func111,Tryz.ntmps111
 go_wp2_with (go_at_call 140;refine h67.mono ?_;rintro e w' ⟨rfl,hw⟩;rw [hw])
 go_ret
 exact ⟨rfl,Ext.refl _⟩
theorem Bm (F:Nat) (p0 p1:ByteArray) (res:Bool) (h:strings_Contains F p0 p1=some res) (μ:Frz) (w0:World) (hm:FrzAt μ w0):Calls Tryz.prog 33 #[.string p0,.string p1] w0 (λe w=>e=.returned (.bool res)/\Ext w0 w):=by
 unfold strings_Contains at h
 split at h
 ·rename_i c hc
  cases h
  have e:p1=⟨#[c]⟩:=by
   cases p1;rename_i d
   simp only at hc;rw [ByteArray.mk.injEq];exact Array.toList_inj.1 hc
  subst e;refine (Any.strings_Contains_one Tryz.laysHas p0 c w0).mono ?_;rintro e w ⟨rfl,rfl⟩;exact ⟨rfl,Ext.refl _⟩
 ·cases h
theorem Sp (F:Nat) (p0:Int) (res:ByteArray) (h:strconv_Itoa F p0=some res) (μ:Frz) (w0:World) (hm:FrzAt μ w0) (hG:GlM μ):Calls Tryz.prog 96 #[.int .i64 p0] w0 (λe w=>e=.returned (.string res)/\Ext w0 w):=by
 unfold strconv_Itoa at h
 split at h
 ·rename_i hc
  cases h
  refine (Any.strconv_Itoa Tryz.laysItoa p0 hc.1 hc.2 w0 (hG w0 hm)).mono ?_;rintro e w ⟨rfl,k,os,rfl⟩;exact ⟨rfl,Lib.below_grow _ w0 (Nat.le_refl _) k os⟩
 ·cases h
end Go.Proofs.YtfkeddejdahnhaaGreatDoor
