import Derived.Test.YtkjnafecmjakcaaGreatDoorS11XD
import Derived.Test.YtkjnafecmjakcaaGreatDoorProg
import Derived.OpenShut
import Derived.ChangeArms
namespace Go.Proofs.YtkjnafecmjakcaaGreatDoor
open Go Go.RowKit Go.Eng
set_option linter.unusedVariables false
def ok5 (x:Int):Prop:=0≤x∧x≤255
theorem rd5 {H:Type} {enc:TypeId×Value→H} {w:World} {cs:List Value} (h:Reads enc Tryz.prog w 5 cs):∃(x:Int),cs=[.int .u8 x]∧ok5 x:=by
  obtain ⟨n,e,k⟩:=Reads.int Tryz.underlying5 h;exact ⟨n,e,bounds_u8 k⟩
def A73 (l:(List Int)):Prop:=∀y∈l,ok5 y
theorem A75 {H:Type} {enc:TypeId×Value→H} {w:World} {cs:List Value} (h:Reads enc Tryz.prog w 42 cs):∃(x:(List Int)) (ad1:Option Addr) (cap2:Nat),cs=[.slice ad1 x.length cap2]∧ArrM (Cp w) 1 (fK .u8) ad1 cap2 x∧A73 x:=by
  obtain ⟨ad,cap,l,e,hA,k⟩:=Reads.slice (f:=(fK .u8)) (ok:=ok5) (sz:=1) Tryz.underlying42 (by kernel_rfl) (by decide) (fun c _ hr=>rd5 hr) (Ux .u8) h;exact ⟨l,ad,cap,e,hA,k⟩
def A42 (l:(List Int)):Prop:=∀y∈l,ok5 y
theorem A64 {H:Type} {enc:TypeId×Value→H} {w:World} {cs:List Value} (h:Reads enc Tryz.prog w 41 cs):∃(x:(List Int)) (ad1:Option Addr) (cap2:Nat),cs=[.slice ad1 x.length cap2]∧ArrM (Cp w) 1 (fK .u8) ad1 cap2 x∧A42 x:=by
  obtain ⟨ad,cap,l,e,hA,k⟩:=Reads.slice (f:=(fK .u8)) (ok:=ok5) (sz:=1) Tryz.underlying41 (by kernel_rfl) (by decide) (fun c _ hr=>rd5 hr) (Ux .u8) h;exact ⟨l,ad,cap,e,hA,k⟩
def A74 (x:law04_Air):Prop:=ok5 x.Rose∧ok5 x.Gates∧ok5 x.Tilt∧A42 x.Kinds∧A42 x.Low∧A42 x.Wide
theorem A76 {H:Type} {enc:TypeId×Value→H} {w:World} {cs:List Value} (h:Reads enc Tryz.prog w 44 cs):∃(x:law04_Air) (ad1:Option Addr) (cap2:Nat) (ad3:Option Addr) (cap4:Nat) (ad5:Option Addr) (cap6:Nat),cs=[.int .u8 x.Rose,.int .u8 x.Gates,.int .u8 x.Tilt,.slice ad1 x.Kinds.length cap2,.slice ad3 x.Low.length cap4,.slice ad5 x.Wide.length cap6]∧ArrM (Cp w) 1 (fK .u8) ad1 cap2 x.Kinds∧ArrM (Cp w) 1 (fK .u8) ad3 cap4 x.Low∧ArrM (Cp w) 1 (fK .u8) ad5 cap6 x.Wide∧A74 x:=by
  have hl:=(Reads.len Tryz.underlying44 h).trans (show Tryz.prog.cellsOf 44=6 by kernel_rfl)
  match cs,hl with
  | [c0,c1,c2,c3,c4,c5],_ =>
    obtain ⟨x0,e0,k0⟩:=rd5 (Reads.field Tryz.underlying44 h 0 rfl 1 (by kernel_rfl));replace e0:[c0]=_:=e0;simp only [List.cons.injEq,and_true] at e0;obtain ⟨x1,e1,k1⟩:=rd5 (Reads.field Tryz.underlying44 h 1 rfl 1 (by kernel_rfl));replace e1:[c1]=_:=e1;simp only [List.cons.injEq,and_true] at e1;obtain ⟨x2,e2,k2⟩:=rd5 (Reads.field Tryz.underlying44 h 2 rfl 1 (by kernel_rfl));replace e2:[c2]=_:=e2;simp only [List.cons.injEq,and_true] at e2;obtain ⟨x3,ad1_3,cap2_3,e3,f3_0,k3⟩:=A64 (Reads.field Tryz.underlying44 h 3 rfl 1 (by kernel_rfl));replace e3:[c3]=_:=e3;simp only [List.cons.injEq,and_true] at e3;obtain ⟨x4,ad1_4,cap2_4,e4,f4_0,k4⟩:=A64 (Reads.field Tryz.underlying44 h 4 rfl 1 (by kernel_rfl));replace e4:[c4]=_:=e4;simp only [List.cons.injEq,and_true] at e4;obtain ⟨x5,ad1_5,cap2_5,e5,f5_0,k5⟩:=A64 (Reads.field Tryz.underlying44 h 5 rfl 1 (by kernel_rfl));replace e5:[c5]=_:=e5;simp only [List.cons.injEq,and_true] at e5;obtain rfl:=e0;obtain rfl:=e1;obtain rfl:=e2;obtain rfl:=e3;obtain rfl:=e4;obtain rfl:=e5;exact ⟨⟨x0,x1,x2,x3,x4,x5⟩,ad1_3,cap2_3,ad1_4,cap2_4,ad1_5,cap2_5,rfl,f3_0,f4_0,f5_0,k0,k1,k2,k3,k4,k5⟩
end Go.Proofs.YtkjnafecmjakcaaGreatDoor
