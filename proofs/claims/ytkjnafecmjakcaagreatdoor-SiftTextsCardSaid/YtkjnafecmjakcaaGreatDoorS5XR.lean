import Derived.Test.YtkjnafecmjakcaaGreatDoorS5XD
import Derived.Test.YtkjnafecmjakcaaGreatDoorProg
import Derived.OpenShut
import Derived.ChangeArms
namespace Go.Proofs.YtkjnafecmjakcaaGreatDoor
open Go Go.RowKit Go.Eng
set_option linter.unusedVariables false
def ok5 (x:Int):Prop:=0≤x∧x≤255
theorem rd5 {H:Type} {enc:TypeId×Value→H} {w:World} {cs:List Value} (h:Reads enc Tryz.prog w 5 cs):∃(x:Int),cs=[.int .u8 x]∧ok5 x:=by
  obtain ⟨n,e,k⟩:=Reads.int Tryz.underlying5 h;exact ⟨n,e,bounds_u8 k⟩
def A6y (l:(List Int)):Prop:=∀y∈l,ok5 y
theorem A6i {H:Type} {enc:TypeId×Value→H} {w:World} {cs:List Value} (h:Reads enc Tryz.prog w 42 cs):∃(x:(List Int)) (ad1:Option Addr) (cap2:Nat),cs=[.slice ad1 x.length cap2]∧ArrM (Ea w) 1 (fK .u8) ad1 cap2 x∧A6y x:=by
  obtain ⟨ad,cap,l,e,hA,k⟩:=Reads.slice (f:=(fK .u8)) (ok:=ok5) (sz:=1) Tryz.underlying42 (by kernel_rfl) (by decide) (fun c _ hr=>rd5 hr) (R7 .u8) h;exact ⟨l,ad,cap,e,hA,k⟩
def A6x (l:(List Int)):Prop:=∀y∈l,ok5 y
theorem A6z {H:Type} {enc:TypeId×Value→H} {w:World} {cs:List Value} (h:Reads enc Tryz.prog w 41 cs):∃(x:(List Int)) (ad1:Option Addr) (cap2:Nat),cs=[.slice ad1 x.length cap2]∧ArrM (Ea w) 1 (fK .u8) ad1 cap2 x∧A6x x:=by
  obtain ⟨ad,cap,l,e,hA,k⟩:=Reads.slice (f:=(fK .u8)) (ok:=ok5) (sz:=1) Tryz.underlying41 (by kernel_rfl) (by decide) (fun c _ hr=>rd5 hr) (R7 .u8) h;exact ⟨l,ad,cap,e,hA,k⟩
end Go.Proofs.YtkjnafecmjakcaaGreatDoor
