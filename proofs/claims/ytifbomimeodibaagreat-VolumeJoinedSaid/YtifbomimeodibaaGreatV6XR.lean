import Derived.Test.YtifbomimeodibaaGreatV6XD
import Derived.Test.YtifbomimeodibaaGreatProg
import Derived.OpenShut
import Derived.ChangeArms
namespace Go.Proofs.YtifbomimeodibaaGreat
open Go Go.RowKit Go.Eng
set_option linter.unusedVariables false
def ok5 (x:Int):Prop:=0≤x∧x≤255
theorem rd5 {H:Type} {enc:TypeId×Value→H} {w:World} {cs:List Value} (h:Reads enc Tryz.prog w 5 cs):∃(x:Int),cs=[.int .u8 x]∧ok5 x:=by
  obtain ⟨n,e,k⟩:=Reads.int Tryz.underlying5 h;exact ⟨n,e,bounds_u8 k⟩
def A4r (x:Int):Prop:=0≤x∧x≤4294967295
theorem A5e {H:Type} {enc:TypeId×Value→H} {w:World} {cs:List Value} (h:Reads enc Tryz.prog w 99 cs):∃(x:Int),cs=[.int .u32 x]∧A4r x:=by
  obtain ⟨n,e,k⟩:=Reads.int Tryz.underlying99 h;exact ⟨n,e,bounds_u32 k⟩
def A2p (x:(Int×Int×Int)):Prop:=ok5 x.1∧ok5 x.2.1∧ok5 x.2.2
theorem A4v {H:Type} {enc:TypeId×Value→H} {w:World} {cs:List Value} (h:Reads enc Tryz.prog w 100 cs):∃(x:(Int×Int×Int)),cs=[.int .u8 x.1,.int .u8 x.2.1,.int .u8 x.2.2]∧A2p x:=by
  have hl:=(Reads.arrLen Tryz.underlying100 h).trans (show Tryz.prog.cellsOf 100=3 by kernel_rfl)
  match cs,hl with
  | [c0,c1,c2],_ =>
    obtain ⟨x0,e0,k0⟩:=rd5 (Reads.part Tryz.underlying100 h 0 (by decide) 1 (by kernel_rfl));replace e0:[c0]=_:=e0;simp only [List.cons.injEq,and_true] at e0;obtain ⟨x1,e1,k1⟩:=rd5 (Reads.part Tryz.underlying100 h 1 (by decide) 1 (by kernel_rfl));replace e1:[c1]=_:=e1;simp only [List.cons.injEq,and_true] at e1;obtain ⟨x2,e2,k2⟩:=rd5 (Reads.part Tryz.underlying100 h 2 (by decide) 1 (by kernel_rfl));replace e2:[c2]=_:=e2;simp only [List.cons.injEq,and_true] at e2;obtain rfl:=e0;obtain rfl:=e1;obtain rfl:=e2;exact ⟨⟨x0,x1,x2⟩,rfl,k0,k1,k2⟩
def A0l (x:Int):Prop:=-32768≤x∧x≤32767
theorem A4y {H:Type} {enc:TypeId×Value→H} {w:World} {cs:List Value} (h:Reads enc Tryz.prog w 179 cs):∃(x:Int),cs=[.int .i16 x]∧A0l x:=by
  obtain ⟨n,e,k⟩:=Reads.int Tryz.underlying179 h;exact ⟨n,e,bounds_i16 k⟩
def A2q (l:(List Int)):Prop:=∀y∈l,A0l y
theorem A4w {H:Type} {enc:TypeId×Value→H} {w:World} {cs:List Value} (h:Reads enc Tryz.prog w 101 cs):∃(x:(List Int)) (ad1:Option Addr) (cap2:Nat),cs=[.slice ad1 x.length cap2]∧ArrM (Bb w) 1 (fK .i16) ad1 cap2 x∧A2q x:=by
  obtain ⟨ad,cap,l,e,hA,k⟩:=Reads.slice (f:=(fK .i16)) (ok:=A0l) (sz:=1) Tryz.underlying101 (by kernel_rfl) (by decide) (fun c _ hr=>A4y hr) (Cb .i16) h;exact ⟨l,ad,cap,e,hA,k⟩
def A0k (x:law12_Thing):Prop:=ok5 x.Kind∧A4r x.Time∧A2p x.Sides∧A2q x.Numbers
theorem A4x {H:Type} {enc:TypeId×Value→H} {w:World} {cs:List Value} (h:Reads enc Tryz.prog w 103 cs):∃(x:law12_Thing) (ad1:Option Addr) (cap2:Nat),cs=[.int .u8 x.Kind,.int .u32 x.Time,.int .u8 x.Sides.1,.int .u8 x.Sides.2.1,.int .u8 x.Sides.2.2,.slice ad1 x.Numbers.length cap2]∧ArrM (Bb w) 1 (fK .i16) ad1 cap2 x.Numbers∧A0k x:=by
  have hl:=(Reads.len Tryz.underlying103 h).trans (show Tryz.prog.cellsOf 103=6 by kernel_rfl)
  match cs,hl with
  | [c0,c1,c2,c3,c4,c5],_ =>
    obtain ⟨x0,e0,k0⟩:=rd5 (Reads.field Tryz.underlying103 h 0 rfl 1 (by kernel_rfl));replace e0:[c0]=_:=e0;simp only [List.cons.injEq,and_true] at e0;obtain ⟨x1,e1,k1⟩:=A5e (Reads.field Tryz.underlying103 h 1 rfl 1 (by kernel_rfl));replace e1:[c1]=_:=e1;simp only [List.cons.injEq,and_true] at e1;obtain ⟨x2,e2,k2⟩:=A4v (Reads.field Tryz.underlying103 h 2 rfl 3 (by kernel_rfl));replace e2:[c2,c3,c4]=_:=e2;simp only [List.cons.injEq,and_true] at e2;obtain ⟨x3,ad1_3,cap2_3,e3,f3_0,k3⟩:=A4w (Reads.field Tryz.underlying103 h 3 rfl 1 (by kernel_rfl));replace e3:[c5]=_:=e3;simp only [List.cons.injEq,and_true] at e3;obtain rfl:=e0;obtain rfl:=e1;obtain ⟨rfl,rfl,rfl⟩:=e2;obtain rfl:=e3;exact ⟨⟨x0,x1,x2,x3⟩,ad1_3,cap2_3,rfl,f3_0,k0,k1,k2,k3⟩
def A5d (l:(List law12_Thing)):Prop:=∀y∈l,A0k y
theorem A3p {H:Type} {enc:TypeId×Value→H} {w:World} {cs:List Value} (h:Reads enc Tryz.prog w 59 cs):∃(x:(List law12_Thing)) (ad1:Option Addr) (cap2:Nat) (css3:List (List Value)),cs=[.slice ad1 x.length cap2]∧ArrQ (Bb w) 6 Rp103 ad1 cap2 css3 x∧A5d x:=by
  obtain ⟨ad,cap,css,l,e,hA,k⟩:=Reads.sliceQ (R:=Rp103) (ok:=A0k) (sz:=6) Tryz.underlying59 (by kernel_rfl) (by decide) (fun c _ hr=>by
    obtain ⟨x,ad1,cap2,e,f0,k⟩:=A4x hr;exact ⟨x,⟨ad1,cap2,e,f0⟩,k⟩) h
  exact ⟨l,ad,cap,css,e,hA,k⟩
end Go.Proofs.YtifbomimeodibaaGreat
