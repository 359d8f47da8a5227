import Derived.Test.YtfkeddejdahnhaaGreatDoorQ3XD
import Derived.OpenShut
import Derived.ChangeArms
namespace Go.Proofs.YtfkeddejdahnhaaGreatDoor
open Go Go.RowKit Go.Eng
set_option linter.unusedVariables false
def ok5 (x:Int):Prop:=0<=x/\x<=255
theorem rd5 {H:Type} {enc:TypeId×Value->H} {w:World} {cs:List Value} (h:Reads enc Tryz.prog w 5 cs):∃(x:Int),cs=[.int .u8 x]/\ok5 x:=by
  obtain ⟨n,e,k⟩:=Reads.int Tryz.underlying5 h;exact ⟨n,e,bounds_u8 k⟩
def B4t (x:Int):Prop:=-32768<=x/\x<=32767
theorem C0e {H:Type} {enc:TypeId×Value->H} {w:World} {cs:List Value} (h:Reads enc Tryz.prog w 22 cs):∃(x:Int),cs=[.int .i16 x]/\B4t x:=by
  obtain ⟨n,e,k⟩:=Reads.int Tryz.underlying22 h;exact ⟨n,e,bounds_i16 k⟩
def C08 (l:(List Int)):Prop:=∀y∈l,B4t y
theorem C0s {H:Type} {enc:TypeId×Value->H} {w:World} {cs:List Value} (h:Reads enc Tryz.prog w 23 cs):∃(x:(List Int)) (ad1:Option Addr) (cap2:Nat),cs=[.slice ad1 x.length cap2]/\ArrM (C3 w) 1 (fK .i16) ad1 cap2 x/\C08 x:=by
  obtain ⟨ad,cap,l,e,hA,k⟩:=Reads.slice (f:=(fK .i16)) (ok:=B4t) (sz:=1) Tryz.underlying23 (by kernel_rfl) dc (λc _ hr=>C0e hr) (Ut .i16) h;exact ⟨l,ad,cap,e,hA,k⟩
def B2g (x:Int):Prop:=0<=x/\x<=65535
theorem B8i {H:Type} {enc:TypeId×Value->H} {w:World} {cs:List Value} (h:Reads enc Tryz.prog w 24 cs):∃(x:Int),cs=[.int .u16 x]/\B2g x:=by
  obtain ⟨n,e,k⟩:=Reads.int Tryz.underlying24 h;exact ⟨n,e,bounds_u16 k⟩
def C09 (l:(List Int)):Prop:=∀y∈l,B2g y
theorem C0t {H:Type} {enc:TypeId×Value->H} {w:World} {cs:List Value} (h:Reads enc Tryz.prog w 25 cs):∃(x:(List Int)) (ad1:Option Addr) (cap2:Nat),cs=[.slice ad1 x.length cap2]/\ArrM (C3 w) 1 (fK .u16) ad1 cap2 x/\C09 x:=by
  obtain ⟨ad,cap,l,e,hA,k⟩:=Reads.slice (f:=(fK .u16)) (ok:=B2g) (sz:=1) Tryz.underlying25 (by kernel_rfl) dc (λc _ hr=>B8i hr) (Ut .u16) h;exact ⟨l,ad,cap,e,hA,k⟩
def C0a (l:(List Int)):Prop:=∀y∈l,ok5 y
theorem C0u {H:Type} {enc:TypeId×Value->H} {w:World} {cs:List Value} (h:Reads enc Tryz.prog w 26 cs):∃(x:(List Int)) (ad1:Option Addr) (cap2:Nat),cs=[.slice ad1 x.length cap2]/\ArrM (C3 w) 1 (fK .u8) ad1 cap2 x/\C0a x:=by
  obtain ⟨ad,cap,l,e,hA,k⟩:=Reads.slice (f:=(fK .u8)) (ok:=ok5) (sz:=1) Tryz.underlying26 (by kernel_rfl) dc (λc _ hr=>rd5 hr) (Ut .u8) h;exact ⟨l,ad,cap,e,hA,k⟩
def C0b (x:zW):Prop:=ok5 x.Kind/\ok5 x.Lambda/\ok5 x.First/\ok5 x.Second/\ok5 x.Count/\ok5 x.Gates/\B4t x.Base/\C08 x.Speeds/\B2g x.Jump/\ok5 x.Slip/\C09 x.Slips/\C0a x.Loud
theorem C0v {H:Type} {enc:TypeId×Value->H} {w:World} {cs:List Value} (h:Reads enc Tryz.prog w 28 cs):∃(x:zW) (ad1:Option Addr) (cap2:Nat) (ad3:Option Addr) (cap4:Nat) (ad5:Option Addr) (cap6:Nat),cs=[.int .u8 x.Kind,.int .u8 x.Lambda,.int .u8 x.First,.int .u8 x.Second,.int .u8 x.Count,.int .u8 x.Gates,.int .i16 x.Base,.slice ad1 x.Speeds.length cap2,.int .u16 x.Jump,.int .u8 x.Slip,.slice ad3 x.Slips.length cap4,.slice ad5 x.Loud.length cap6]/\ArrM (C3 w) 1 (fK .i16) ad1 cap2 x.Speeds/\ArrM (C3 w) 1 (fK .u16) ad3 cap4 x.Slips/\ArrM (C3 w) 1 (fK .u8) ad5 cap6 x.Loud/\C0b x:=by
  have hl:=(Reads.len Tryz.underlying28 h).trans (show Tryz.prog.cellsOf 28=12 by kernel_rfl)
  match cs,hl with
  | [c0,c1,c2,c3,c4,c5,c6,c7,c8,c9,a2,a3],_ =>
    obtain ⟨x0,e0,k0⟩:=rd5 (Reads.field Tryz.underlying28 h 0 rfl 1 (by kernel_rfl));replace e0:[c0]=_:=e0;simp only [List.cons.injEq,and_true] at e0;obtain ⟨x1,e1,k1⟩:=rd5 (Reads.field Tryz.underlying28 h 1 rfl 1 (by kernel_rfl));replace e1:[c1]=_:=e1;simp only [List.cons.injEq,and_true] at e1;obtain ⟨x2,e2,k2⟩:=rd5 (Reads.field Tryz.underlying28 h 2 rfl 1 (by kernel_rfl));replace e2:[c2]=_:=e2;simp only [List.cons.injEq,and_true] at e2;obtain ⟨x3,e3,k3⟩:=rd5 (Reads.field Tryz.underlying28 h 3 rfl 1 (by kernel_rfl));replace e3:[c3]=_:=e3;simp only [List.cons.injEq,and_true] at e3;obtain ⟨x4,e4,k4⟩:=rd5 (Reads.field Tryz.underlying28 h 4 rfl 1 (by kernel_rfl));replace e4:[c4]=_:=e4;simp only [List.cons.injEq,and_true] at e4;obtain ⟨x5,e5,k5⟩:=rd5 (Reads.field Tryz.underlying28 h 5 rfl 1 (by kernel_rfl));replace e5:[c5]=_:=e5;simp only [List.cons.injEq,and_true] at e5;obtain ⟨x6,e6,k6⟩:=C0e (Reads.field Tryz.underlying28 h 6 rfl 1 (by kernel_rfl));replace e6:[c6]=_:=e6;simp only [List.cons.injEq,and_true] at e6;obtain ⟨x7,ad1_7,cap2_7,e7,f7_0,k7⟩:=C0s (Reads.field Tryz.underlying28 h 7 rfl 1 (by kernel_rfl));replace e7:[c7]=_:=e7;simp only [List.cons.injEq,and_true] at e7;obtain ⟨x8,e8,k8⟩:=B8i (Reads.field Tryz.underlying28 h 8 rfl 1 (by kernel_rfl));replace e8:[c8]=_:=e8;simp only [List.cons.injEq,and_true] at e8;obtain ⟨x9,e9,k9⟩:=rd5 (Reads.field Tryz.underlying28 h 9 rfl 1 (by kernel_rfl));replace e9:[c9]=_:=e9;simp only [List.cons.injEq,and_true] at e9;obtain ⟨a6,ad1_10,cap2_10,a0,f10_0,a4⟩:=C0t (Reads.field Tryz.underlying28 h 10 rfl 1 (by kernel_rfl));replace a0:[a2]=_:=a0;simp only [List.cons.injEq,and_true] at a0;obtain ⟨a7,ad1_11,cap2_11,a1,f11_0,a5⟩:=C0u (Reads.field Tryz.underlying28 h 11 rfl 1 (by kernel_rfl));replace a1:[a3]=_:=a1;simp only [List.cons.injEq,and_true] at a1;obtain rfl:=e0;obtain rfl:=e1;obtain rfl:=e2;obtain rfl:=e3;obtain rfl:=e4;obtain rfl:=e5;obtain rfl:=e6;obtain rfl:=e7;obtain rfl:=e8;obtain rfl:=e9;obtain rfl:=a0;obtain rfl:=a1;exact ⟨⟨x0,x1,x2,x3,x4,x5,x6,x7,x8,x9,a6,a7⟩,ad1_7,cap2_7,ad1_10,cap2_10,ad1_11,cap2_11,rfl,f7_0,f10_0,f11_0,k0,k1,k2,k3,k4,k5,k6,k7,k8,k9,a4,a5⟩
def C0r (x:zU):Prop:=C0b x.Air/\ok5 x.Rules/\B2g x.Weak/\ok5 x.Far
theorem C0w {H:Type} {enc:TypeId×Value->H} {w:World} {cs:List Value} (h:Reads enc Tryz.prog w 30 cs):∃(x:zU) (ad1:Option Addr) (cap2:Nat) (ad3:Option Addr) (cap4:Nat) (ad5:Option Addr) (cap6:Nat),cs=[.int .u8 x.Air.Kind,.int .u8 x.Air.Lambda,.int .u8 x.Air.First,.int .u8 x.Air.Second,.int .u8 x.Air.Count,.int .u8 x.Air.Gates,.int .i16 x.Air.Base,.slice ad1 x.Air.Speeds.length cap2,.int .u16 x.Air.Jump,.int .u8 x.Air.Slip,.slice ad3 x.Air.Slips.length cap4,.slice ad5 x.Air.Loud.length cap6,.int .u8 x.Rules,.int .u16 x.Weak,.int .u8 x.Far]/\ArrM (C3 w) 1 (fK .i16) ad1 cap2 x.Air.Speeds/\ArrM (C3 w) 1 (fK .u16) ad3 cap4 x.Air.Slips/\ArrM (C3 w) 1 (fK .u8) ad5 cap6 x.Air.Loud/\C0r x:=by
  have hl:=(Reads.len Tryz.underlying30 h).trans (show Tryz.prog.cellsOf 30=15 by kernel_rfl)
  match cs,hl with
  | [c0,c1,c2,c3,c4,c5,c6,c7,c8,c9,a0,a1,a2,a3,a4],_ =>
    obtain ⟨x0,ad1_0,cap2_0,ad3_0,cap4_0,ad5_0,cap6_0,e0,f0_0,f0_1,f0_2,k0⟩:=C0v (Reads.field Tryz.underlying30 h 0 rfl 12 (by kernel_rfl));replace e0:[c0,c1,c2,c3,c4,c5,c6,c7,c8,c9,a0,a1]=_:=e0;simp only [List.cons.injEq,and_true] at e0;obtain ⟨x1,e1,k1⟩:=rd5 (Reads.field Tryz.underlying30 h 1 rfl 1 (by kernel_rfl));replace e1:[a2]=_:=e1;simp only [List.cons.injEq,and_true] at e1;obtain ⟨x2,e2,k2⟩:=B8i (Reads.field Tryz.underlying30 h 2 rfl 1 (by kernel_rfl));replace e2:[a3]=_:=e2;simp only [List.cons.injEq,and_true] at e2;obtain ⟨x3,e3,k3⟩:=rd5 (Reads.field Tryz.underlying30 h 3 rfl 1 (by kernel_rfl));replace e3:[a4]=_:=e3;simp only [List.cons.injEq,and_true] at e3;obtain ⟨rfl,rfl,rfl,rfl,rfl,rfl,rfl,rfl,rfl,rfl,rfl,rfl⟩:=e0;obtain rfl:=e1;obtain rfl:=e2;obtain rfl:=e3;exact ⟨⟨x0,x1,x2,x3⟩,ad1_0,cap2_0,ad3_0,cap4_0,ad5_0,cap6_0,rfl,f0_0,f0_1,f0_2,k0,k1,k2,k3⟩
end Go.Proofs.YtfkeddejdahnhaaGreatDoor
