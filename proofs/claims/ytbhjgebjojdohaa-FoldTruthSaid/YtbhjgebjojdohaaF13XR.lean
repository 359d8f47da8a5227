import Derived.Test.YtbhjgebjojdohaaF13XD
import Derived.Test.YtbhjgebjojdohaaProg
import Derived.OpenShut
import Derived.ChangeArms
namespace Go.Proofs.Ytbhjgebjojdohaa
open Go Go.RowKit Go.Eng
set_option linter.unusedVariables false
def ok5 (x:Int):Prop:=0≤x∧x≤255
theorem rd5 {H:Type} {enc:TypeId×Value→H} {w:World} {cs:List Value} (h:Reads enc Try.prog w 5 cs):∃(x:Int),cs=[.int .u8 x]∧ok5 x:=by
  obtain ⟨n,e,k⟩:=Reads.int Try.underlying5 h;exact ⟨n,e,bounds_u8 k⟩
def A1n (x:Int):Prop:=0≤x∧x≤65535
theorem A67 {H:Type} {enc:TypeId×Value→H} {w:World} {cs:List Value} (h:Reads enc Try.prog w 66 cs):∃(x:Int),cs=[.int .u16 x]∧A1n x:=by
  obtain ⟨n,e,k⟩:=Reads.int Try.underlying66 h;exact ⟨n,e,bounds_u16 k⟩
def A5z (x:Int):Prop:=-32768≤x∧x≤32767
theorem B04 {H:Type} {enc:TypeId×Value→H} {w:World} {cs:List Value} (h:Reads enc Try.prog w 67 cs):∃(x:Int),cs=[.int .i16 x]∧A5z x:=by
  obtain ⟨n,e,k⟩:=Reads.int Try.underlying67 h;exact ⟨n,e,bounds_i16 k⟩
def B01 (l:(List Int)):Prop:=∀y∈l,A5z y
theorem B0h {H:Type} {enc:TypeId×Value→H} {w:World} {cs:List Value} (h:Reads enc Try.prog w 68 cs):∃(x:(List Int)) (ad1:Option Addr) (cap2:Nat),cs=[.slice ad1 x.length cap2]∧ArrM (Bb w) 1 (fK .i16) ad1 cap2 x∧B01 x:=by
  obtain ⟨ad,cap,l,e,hA,k⟩:=Reads.slice (f:=(fK .i16)) (ok:=A5z) (sz:=1) Try.underlying68 (by kernel_rfl) (by decide) (fun c _ hr=>B04 hr) (V7 .i16) h;exact ⟨l,ad,cap,e,hA,k⟩
def B02 (x:Int):Prop:=0≤x∧x≤4294967295
theorem B0i {H:Type} {enc:TypeId×Value→H} {w:World} {cs:List Value} (h:Reads enc Try.prog w 69 cs):∃(x:Int),cs=[.int .u32 x]∧B02 x:=by
  obtain ⟨n,e,k⟩:=Reads.int Try.underlying69 h;exact ⟨n,e,bounds_u32 k⟩
def A8k (l:(List Int)):Prop:=∀y∈l,A1n y
theorem B05 {H:Type} {enc:TypeId×Value→H} {w:World} {cs:List Value} (h:Reads enc Try.prog w 70 cs):∃(x:(List Int)) (ad1:Option Addr) (cap2:Nat),cs=[.slice ad1 x.length cap2]∧ArrM (Bb w) 1 (fK .u16) ad1 cap2 x∧A8k x:=by
  obtain ⟨ad,cap,l,e,hA,k⟩:=Reads.slice (f:=(fK .u16)) (ok:=A1n) (sz:=1) Try.underlying70 (by kernel_rfl) (by decide) (fun c _ hr=>A67 hr) (V7 .u16) h;exact ⟨l,ad,cap,e,hA,k⟩
def B0g (x:law03_Air):Prop:=ok5 x.Kind∧ok5 x.Lambda∧A1n x.First∧A1n x.Second∧ok5 x.Rose∧ok5 x.Gates∧A5z x.Base∧B01 x.Speeds∧B02 x.Blank∧A8k x.Less∧A8k x.More∧A1n x.Jump
theorem B0j {H:Type} {enc:TypeId×Value→H} {w:World} {cs:List Value} (h:Reads enc Try.prog w 72 cs):∃(x:law03_Air) (ad1:Option Addr) (cap2:Nat) (ad3:Option Addr) (cap4:Nat) (ad5:Option Addr) (cap6:Nat),cs=[.int .u8 x.Kind,.int .u8 x.Lambda,.int .u16 x.First,.int .u16 x.Second,.int .u8 x.Rose,.int .u8 x.Gates,.int .i16 x.Base,.slice ad1 x.Speeds.length cap2,.int .u32 x.Blank,.slice ad3 x.Less.length cap4,.slice ad5 x.More.length cap6,.int .u16 x.Jump]∧ArrM (Bb w) 1 (fK .i16) ad1 cap2 x.Speeds∧ArrM (Bb w) 1 (fK .u16) ad3 cap4 x.Less∧ArrM (Bb w) 1 (fK .u16) ad5 cap6 x.More∧B0g x:=by
  have hl:=(Reads.len Try.underlying72 h).trans (show Try.prog.cellsOf 72=12 by kernel_rfl)
  match cs,hl with
  | [c0,c1,c2,c3,c4,c5,c6,c7,c8,c9,a2,a3],_ =>
    obtain ⟨x0,e0,k0⟩:=rd5 (Reads.field Try.underlying72 h 0 rfl 1 (by kernel_rfl));replace e0:[c0]=_:=e0;simp only [List.cons.injEq,and_true] at e0;obtain ⟨x1,e1,k1⟩:=rd5 (Reads.field Try.underlying72 h 1 rfl 1 (by kernel_rfl));replace e1:[c1]=_:=e1;simp only [List.cons.injEq,and_true] at e1;obtain ⟨x2,e2,k2⟩:=A67 (Reads.field Try.underlying72 h 2 rfl 1 (by kernel_rfl));replace e2:[c2]=_:=e2;simp only [List.cons.injEq,and_true] at e2;obtain ⟨x3,e3,k3⟩:=A67 (Reads.field Try.underlying72 h 3 rfl 1 (by kernel_rfl));replace e3:[c3]=_:=e3;simp only [List.cons.injEq,and_true] at e3;obtain ⟨x4,e4,k4⟩:=rd5 (Reads.field Try.underlying72 h 4 rfl 1 (by kernel_rfl));replace e4:[c4]=_:=e4;simp only [List.cons.injEq,and_true] at e4;obtain ⟨x5,e5,k5⟩:=rd5 (Reads.field Try.underlying72 h 5 rfl 1 (by kernel_rfl));replace e5:[c5]=_:=e5;simp only [List.cons.injEq,and_true] at e5;obtain ⟨x6,e6,k6⟩:=B04 (Reads.field Try.underlying72 h 6 rfl 1 (by kernel_rfl));replace e6:[c6]=_:=e6;simp only [List.cons.injEq,and_true] at e6;obtain ⟨x7,ad1_7,cap2_7,e7,f7_0,k7⟩:=B0h (Reads.field Try.underlying72 h 7 rfl 1 (by kernel_rfl));replace e7:[c7]=_:=e7;simp only [List.cons.injEq,and_true] at e7;obtain ⟨x8,e8,k8⟩:=B0i (Reads.field Try.underlying72 h 8 rfl 1 (by kernel_rfl));replace e8:[c8]=_:=e8;simp only [List.cons.injEq,and_true] at e8;obtain ⟨x9,ad1_9,cap2_9,e9,f9_0,k9⟩:=B05 (Reads.field Try.underlying72 h 9 rfl 1 (by kernel_rfl));replace e9:[c9]=_:=e9;simp only [List.cons.injEq,and_true] at e9;obtain ⟨a6,ad1_10,cap2_10,a0,f10_0,a4⟩:=B05 (Reads.field Try.underlying72 h 10 rfl 1 (by kernel_rfl));replace a0:[a2]=_:=a0;simp only [List.cons.injEq,and_true] at a0;obtain ⟨a7,a1,a5⟩:=A67 (Reads.field Try.underlying72 h 11 rfl 1 (by kernel_rfl));replace a1:[a3]=_:=a1;simp only [List.cons.injEq,and_true] at a1;obtain rfl:=e0;obtain rfl:=e1;obtain rfl:=e2;obtain rfl:=e3;obtain rfl:=e4;obtain rfl:=e5;obtain rfl:=e6;obtain rfl:=e7;obtain rfl:=e8;obtain rfl:=e9;obtain rfl:=a0;obtain rfl:=a1;exact ⟨⟨x0,x1,x2,x3,x4,x5,x6,x7,x8,x9,a6,a7⟩,ad1_7,cap2_7,ad1_9,cap2_9,ad1_10,cap2_10,rfl,f7_0,f9_0,f10_0,k0,k1,k2,k3,k4,k5,k6,k7,k8,k9,a4,a5⟩
end Go.Proofs.Ytbhjgebjojdohaa
