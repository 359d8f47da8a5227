import Derived.Test.YtifbomimeodibaaV3EB
import Derived.Test.YtifbomimeodibaaV3XD
import Derived.Test.YtifbomimeodibaaProg
import Derived.OpenShut
namespace Go.Proofs.Ytifbomimeodibaa
open Go Go.RowKit Go.Eng
set_option linter.unusedVariables false
def ok5 (x:Int):Prop:=0≤x∧x≤255
theorem rd5 {H:Type} {enc:TypeId×Value→H} {w:World} {cs:List Value} (h:Reads enc Try.prog w 5 cs):∃(x:Int),cs=[.int .u8 x]∧ok5 x:=by
  obtain ⟨n,e,k⟩:=Reads.int Try.underlying5 h
  exact ⟨n,e,bounds_u8 k⟩
def A1n (x:Int):Prop:=0≤x∧x≤4294967295
theorem A2b {H:Type} {enc:TypeId×Value→H} {w:World} {cs:List Value} (h:Reads enc Try.prog w 54 cs):∃(x:Int),cs=[.int .u32 x]∧A1n x:=by
  obtain ⟨n,e,k⟩:=Reads.int Try.underlying54 h
  exact ⟨n,e,bounds_u32 k⟩
def A1o (x:(Int×Int×Int)):Prop:=ok5 x.1∧ok5 x.2.1∧ok5 x.2.2
theorem A2c {H:Type} {enc:TypeId×Value→H} {w:World} {cs:List Value} (h:Reads enc Try.prog w 55 cs):∃(x:(Int×Int×Int)),cs=[.int .u8 x.1,.int .u8 x.2.1,.int .u8 x.2.2]∧A1o x:=by
  have hl:=(Reads.arrLen Try.underlying55 h).trans (show Try.prog.cellsOf 55=3 by kernel_rfl)
  match cs,hl with
  | [c0,c1,c2],_ =>
    obtain ⟨x0,e0,k0⟩:=rd5 (Reads.part Try.underlying55 h 0 (by decide) 1 (by kernel_rfl))
    replace e0:[c0]=_:=e0
    simp only [List.cons.injEq,and_true] at e0
    obtain ⟨x1,e1,k1⟩:=rd5 (Reads.part Try.underlying55 h 1 (by decide) 1 (by kernel_rfl))
    replace e1:[c1]=_:=e1
    simp only [List.cons.injEq,and_true] at e1
    obtain ⟨x2,e2,k2⟩:=rd5 (Reads.part Try.underlying55 h 2 (by decide) 1 (by kernel_rfl))
    replace e2:[c2]=_:=e2
    simp only [List.cons.injEq,and_true] at e2
    obtain rfl:=e0
    obtain rfl:=e1
    obtain rfl:=e2
    exact ⟨⟨x0,x1,x2⟩,rfl,k0,k1,k2⟩
def Y4 (x:Int):Prop:=-32768≤x∧x≤32767
theorem A1u {H:Type} {enc:TypeId×Value→H} {w:World} {cs:List Value} (h:Reads enc Try.prog w 110 cs):∃(x:Int),cs=[.int .i16 x]∧Y4 x:=by
  obtain ⟨n,e,k⟩:=Reads.int Try.underlying110 h
  exact ⟨n,e,bounds_i16 k⟩
def A1p (l:(List Int)):Prop:=∀y∈l,Y4 y
theorem A2d {H:Type} {enc:TypeId×Value→H} {w:World} {cs:List Value} (h:Reads enc Try.prog w 56 cs):∃(x:(List Int)) (ad1:Option Addr) (cap2:Nat),cs=[.slice ad1 x.length cap2]∧ArrM (Bm w) 1 (fK .i16) ad1 cap2 x∧A1p x:=by
  obtain ⟨ad,cap,l,e,hA,k⟩:=Reads.slice (f:=(fK .i16)) (ok:=Y4) (sz:=1) Try.underlying56 (by kernel_rfl) (by decide) (fun c _ hr=>A1u hr) (C7 .i16) h
  exact ⟨l,ad,cap,e,hA,k⟩
def A0i (x:law12_Thing):Prop:=ok5 x.Kind∧A1n x.Time∧A1o x.Sides∧A1p x.Numbers
theorem A2e {H:Type} {enc:TypeId×Value→H} {w:World} {cs:List Value} (h:Reads enc Try.prog w 58 cs):∃(x:law12_Thing) (ad1:Option Addr) (cap2:Nat),cs=[.int .u8 x.Kind,.int .u32 x.Time,.int .u8 x.Sides.1,.int .u8 x.Sides.2.1,.int .u8 x.Sides.2.2,.slice ad1 x.Numbers.length cap2]∧ArrM (Bm w) 1 (fK .i16) ad1 cap2 x.Numbers∧A0i x:=by
  have hl:=(Reads.len Try.underlying58 h).trans (show Try.prog.cellsOf 58=6 by kernel_rfl)
  match cs,hl with
  | [c0,c1,c2,c3,c4,c5],_ =>
    obtain ⟨x0,e0,k0⟩:=rd5 (Reads.field Try.underlying58 h 0 rfl 1 (by kernel_rfl))
    replace e0:[c0]=_:=e0
    simp only [List.cons.injEq,and_true] at e0
    obtain ⟨x1,e1,k1⟩:=A2b (Reads.field Try.underlying58 h 1 rfl 1 (by kernel_rfl))
    replace e1:[c1]=_:=e1
    simp only [List.cons.injEq,and_true] at e1
    obtain ⟨x2,e2,k2⟩:=A2c (Reads.field Try.underlying58 h 2 rfl 3 (by kernel_rfl))
    replace e2:[c2,c3,c4]=_:=e2
    simp only [List.cons.injEq,and_true] at e2
    obtain ⟨x3,ad1_3,cap2_3,e3,f3_0,k3⟩:=A2d (Reads.field Try.underlying58 h 3 rfl 1 (by kernel_rfl))
    replace e3:[c5]=_:=e3
    simp only [List.cons.injEq,and_true] at e3
    obtain rfl:=e0
    obtain rfl:=e1
    obtain ⟨rfl,rfl,rfl⟩:=e2
    obtain rfl:=e3
    exact ⟨⟨x0,x1,x2,x3⟩,ad1_3,cap2_3,rfl,f3_0,k0,k1,k2,k3⟩
def A27 (l:(List law12_Thing)):Prop:=∀y∈l,A0i y
theorem A29 {H:Type} {enc:TypeId×Value→H} {w:World} {cs:List Value} (h:Reads enc Try.prog w 22 cs):∃(x:(List law12_Thing)) (ad1:Option Addr) (cap2:Nat) (css3:List (List Value)),cs=[.slice ad1 x.length cap2]∧ArrQ (Bm w) 6 Rp58 ad1 cap2 css3 x∧A27 x:=by
  obtain ⟨ad,cap,css,l,e,hA,k⟩:=Reads.sliceQ (R:=Rp58) (ok:=A0i) (sz:=6) Try.underlying22 (by kernel_rfl) (by decide) (fun c _ hr=>by
    obtain ⟨x,ad1,cap2,e,f0,k⟩:=A2e hr
    exact ⟨x,⟨ad1,cap2,e,f0⟩,k⟩) h
  exact ⟨l,ad,cap,css,e,hA,k⟩
def A28 (l:(List Int)):Prop:=∀y∈l,ok5 y
theorem A2a {H:Type} {enc:TypeId×Value→H} {w:World} {cs:List Value} (h:Reads enc Try.prog w 23 cs):∃(x:(List Int)) (ad1:Option Addr) (cap2:Nat),cs=[.slice ad1 x.length cap2]∧ArrM (Bm w) 1 (fK .u8) ad1 cap2 x∧A28 x:=by
  obtain ⟨ad,cap,l,e,hA,k⟩:=Reads.slice (f:=(fK .u8)) (ok:=ok5) (sz:=1) Try.underlying23 (by kernel_rfl) (by decide) (fun c _ hr=>rd5 hr) (C7 .u8) h
  exact ⟨l,ad,cap,e,hA,k⟩
end Go.Proofs.Ytifbomimeodibaa
