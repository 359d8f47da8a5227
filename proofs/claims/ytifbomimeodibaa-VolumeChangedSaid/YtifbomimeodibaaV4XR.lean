import Derived.Test.YtifbomimeodibaaV4EB
import Derived.Test.YtifbomimeodibaaV4XD
import Derived.Test.YtifbomimeodibaaProg
import Derived.OpenShut
namespace Go.Proofs.Ytifbomimeodibaa
open Go Go.RowKit Go.Eng
set_option linter.unusedVariables false
def ok5 (x:Int):Prop:=0≤x∧x≤255
theorem rd5 {H:Type} {enc:TypeId×Value→H} {w:World} {cs:List Value} (h:Reads enc Try.prog w 5 cs):∃(x:Int),cs=[.int .u8 x]∧ok5 x:=by
  obtain ⟨n,e,k⟩:=Reads.int Try.underlying5 h
  exact ⟨n,e,bounds_u8 k⟩
def A2g (x:Int):Prop:=0≤x∧x≤4294967295
theorem A31 {H:Type} {enc:TypeId×Value→H} {w:World} {cs:List Value} (h:Reads enc Try.prog w 54 cs):∃(x:Int),cs=[.int .u32 x]∧A2g x:=by
  obtain ⟨n,e,k⟩:=Reads.int Try.underlying54 h
  exact ⟨n,e,bounds_u32 k⟩
def A2h (x:(Int×Int×Int)):Prop:=ok5 x.1∧ok5 x.2.1∧ok5 x.2.2
theorem A32 {H:Type} {enc:TypeId×Value→H} {w:World} {cs:List Value} (h:Reads enc Try.prog w 55 cs):∃(x:(Int×Int×Int)),cs=[.int .u8 x.1,.int .u8 x.2.1,.int .u8 x.2.2]∧A2h x:=by
  have hl:=(Reads.arrLen Try.underlying55 h).trans (show Try.prog.cellsOf 55=3 by kernel_rfl)
  match cs,hl with
  | [c0,c1,c2],_ =>
    obtain ⟨x0,e0,k0⟩:=rd5 (Reads.part Try.underlying55 h 0 (by decide) 1 (by kernel_rfl))
    replace e0:[c0]=_:=e0
    simp only [List.cons.injEq,and_true] at e0
    obtain ⟨x1,e1,k1⟩:=rd5 (Reads.part Try.underlying55 h 1 (by decide) 1 (by kernel_rfl))
    replace e1:[c1]=_:=e1
    simp only [List.cons.injEq,and_true] at e1
    obtain ⟨x2,e2,k2⟩:=rd5 (Reads.part Try.underlying55 h 2 (by decide) 1 (by kernel_rfl))
    replace e2:[c2]=_:=e2
    simp only [List.cons.injEq,and_true] at e2
    obtain rfl:=e0
    obtain rfl:=e1
    obtain rfl:=e2
    exact ⟨⟨x0,x1,x2⟩,rfl,k0,k1,k2⟩
def Ym (x:Int):Prop:=-32768≤x∧x≤32767
theorem A2n {H:Type} {enc:TypeId×Value→H} {w:World} {cs:List Value} (h:Reads enc Try.prog w 110 cs):∃(x:Int),cs=[.int .i16 x]∧Ym x:=by
  obtain ⟨n,e,k⟩:=Reads.int Try.underlying110 h
  exact ⟨n,e,bounds_i16 k⟩
def A2i (l:(List Int)):Prop:=∀y∈l,Ym y
theorem A33 {H:Type} {enc:TypeId×Value→H} {w:World} {cs:List Value} (h:Reads enc Try.prog w 56 cs):∃(x:(List Int)) (ad1:Option Addr) (cap2:Nat),cs=[.slice ad1 x.length cap2]∧ArrM (Bp w) 1 (fK .i16) ad1 cap2 x∧A2i x:=by
  obtain ⟨ad,cap,l,e,hA,k⟩:=Reads.slice (f:=(fK .i16)) (ok:=Ym) (sz:=1) Try.underlying56 (by kernel_rfl) (by decide) (fun c _ hr=>A2n hr) (Cf .i16) h
  exact ⟨l,ad,cap,e,hA,k⟩
def A19 (x:law12_Thing):Prop:=ok5 x.Kind∧A2g x.Time∧A2h x.Sides∧A2i x.Numbers
theorem A34 {H:Type} {enc:TypeId×Value→H} {w:World} {cs:List Value} (h:Reads enc Try.prog w 58 cs):∃(x:law12_Thing) (ad1:Option Addr) (cap2:Nat),cs=[.int .u8 x.Kind,.int .u32 x.Time,.int .u8 x.Sides.1,.int .u8 x.Sides.2.1,.int .u8 x.Sides.2.2,.slice ad1 x.Numbers.length cap2]∧ArrM (Bp w) 1 (fK .i16) ad1 cap2 x.Numbers∧A19 x:=by
  have hl:=(Reads.len Try.underlying58 h).trans (show Try.prog.cellsOf 58=6 by kernel_rfl)
  match cs,hl with
  | [c0,c1,c2,c3,c4,c5],_ =>
    obtain ⟨x0,e0,k0⟩:=rd5 (Reads.field Try.underlying58 h 0 rfl 1 (by kernel_rfl))
    replace e0:[c0]=_:=e0
    simp only [List.cons.injEq,and_true] at e0
    obtain ⟨x1,e1,k1⟩:=A31 (Reads.field Try.underlying58 h 1 rfl 1 (by kernel_rfl))
    replace e1:[c1]=_:=e1
    simp only [List.cons.injEq,and_true] at e1
    obtain ⟨x2,e2,k2⟩:=A32 (Reads.field Try.underlying58 h 2 rfl 3 (by kernel_rfl))
    replace e2:[c2,c3,c4]=_:=e2
    simp only [List.cons.injEq,and_true] at e2
    obtain ⟨x3,ad1_3,cap2_3,e3,f3_0,k3⟩:=A33 (Reads.field Try.underlying58 h 3 rfl 1 (by kernel_rfl))
    replace e3:[c5]=_:=e3
    simp only [List.cons.injEq,and_true] at e3
    obtain rfl:=e0
    obtain rfl:=e1
    obtain ⟨rfl,rfl,rfl⟩:=e2
    obtain rfl:=e3
    exact ⟨⟨x0,x1,x2,x3⟩,ad1_3,cap2_3,rfl,f3_0,k0,k1,k2,k3⟩
def A2x (l:(List law12_Thing)):Prop:=∀y∈l,A19 y
theorem A2z {H:Type} {enc:TypeId×Value→H} {w:World} {cs:List Value} (h:Reads enc Try.prog w 22 cs):∃(x:(List law12_Thing)) (ad1:Option Addr) (cap2:Nat) (css3:List (List Value)),cs=[.slice ad1 x.length cap2]∧ArrQ (Bp w) 6 Rp58 ad1 cap2 css3 x∧A2x x:=by
  obtain ⟨ad,cap,css,l,e,hA,k⟩:=Reads.sliceQ (R:=Rp58) (ok:=A19) (sz:=6) Try.underlying22 (by kernel_rfl) (by decide) (fun c _ hr=>by
    obtain ⟨x,ad1,cap2,e,f0,k⟩:=A34 hr
    exact ⟨x,⟨ad1,cap2,e,f0⟩,k⟩) h
  exact ⟨l,ad,cap,css,e,hA,k⟩
def A2y (x:Int):Prop:=0≤x∧x≤65535
theorem A30 {H:Type} {enc:TypeId×Value→H} {w:World} {cs:List Value} (h:Reads enc Try.prog w 50 cs):∃(x:Int),cs=[.int .u16 x]∧A2y x:=by
  obtain ⟨n,e,k⟩:=Reads.int Try.underlying50 h
  exact ⟨n,e,bounds_u16 k⟩
end Go.Proofs.Ytifbomimeodibaa
