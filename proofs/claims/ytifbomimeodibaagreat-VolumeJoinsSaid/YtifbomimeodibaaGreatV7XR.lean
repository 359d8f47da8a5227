import Derived.Test.YtifbomimeodibaaGreatV7XD
import Derived.Test.YtifbomimeodibaaGreatProg
import Derived.OpenShut
import Derived.ChangeArms
namespace Go.Proofs.YtifbomimeodibaaGreat
open Go Go.RowKit Go.Eng
set_option linter.unusedVariables false
def ok5 (x:Int):Prop:=0≤x∧x≤255
theorem rd5 {H:Type} {enc:TypeId×Value→H} {w:World} {cs:List Value} (h:Reads enc Tryz.prog w 5 cs):∃(x:Int),cs=[.int .u8 x]∧ok5 x:=by
  obtain ⟨n,e,k⟩:=Reads.int Tryz.underlying5 h;exact ⟨n,e,bounds_u8 k⟩
def B1h (l:(List Int)):Prop:=∀y∈l,ok5 y
theorem B12 {H:Type} {enc:TypeId×Value→H} {w:World} {cs:List Value} (h:Reads enc Tryz.prog w 22 cs):∃(x:(List Int)) (ad1:Option Addr) (cap2:Nat),cs=[.slice ad1 x.length cap2]∧ArrM (B0 w) 1 (fK .u8) ad1 cap2 x∧B1h x:=by
  obtain ⟨ad,cap,l,e,hA,k⟩:=Reads.slice (f:=(fK .u8)) (ok:=ok5) (sz:=1) Tryz.underlying22 (by kernel_rfl) (by decide) (fun c _ hr=>rd5 hr) (B4 .u8) h;exact ⟨l,ad,cap,e,hA,k⟩
def ok3 (x:Int):Prop:=-9223372036854775808≤x∧x≤9223372036854775807
theorem rd3 {H:Type} {enc:TypeId×Value→H} {w:World} {cs:List Value} (h:Reads enc Tryz.prog w 3 cs):∃(x:Int),cs=[.int .i64 x]∧ok3 x:=by
  obtain ⟨n,e,k⟩:=Reads.int Tryz.underlying3 h;exact ⟨n,e,bounds_i64 k⟩
theorem A9y {H:Type} {enc:TypeId×Value→H} {w:World} {cs:List Value} (h:Reads enc Tryz.prog w 9 cs):∃s:ByteArray,cs=[.string s]∧s.size≤maxLen:=by
  obtain ⟨f,d,h⟩:=h;obtain ⟨s,h1,_,h2⟩:=DataW.trod_string Tryz.underlying9 h;exact ⟨s,h1,h2⟩
def ok9 (x:ByteArray):Prop:=x.size≤maxLen
theorem rd9 {H:Type} {enc:TypeId×Value→H} {w:World} {cs:List Value} (h:Reads enc Tryz.prog w 9 cs):∃(x:ByteArray),cs=[.string x]∧ok9 x:=by
  obtain ⟨n,e,k⟩:=A9y h;exact ⟨n,e,k⟩
def B1i (x:ref12_Query):Prop:=ok3 x.Kind∧ok9 x.Name∧ok3 x.From∧ok3 x.To
theorem B1j {H:Type} {enc:TypeId×Value→H} {w:World} {cs:List Value} (h:Reads enc Tryz.prog w 68 cs):∃(x:ref12_Query),cs=[.int .i64 x.Kind,.string x.Name,.int .i64 x.From,.int .i64 x.To]∧B1i x:=by
  have hl:=(Reads.len Tryz.underlying68 h).trans (show Tryz.prog.cellsOf 68=4 by kernel_rfl)
  match cs,hl with
  | [c0,c1,c2,c3],_ =>
    obtain ⟨x0,e0,k0⟩:=rd3 (Reads.field Tryz.underlying68 h 0 rfl 1 (by kernel_rfl));replace e0:[c0]=_:=e0;simp only [List.cons.injEq,and_true] at e0;obtain ⟨x1,e1,k1⟩:=rd9 (Reads.field Tryz.underlying68 h 1 rfl 1 (by kernel_rfl));replace e1:[c1]=_:=e1;simp only [List.cons.injEq,and_true] at e1;obtain ⟨x2,e2,k2⟩:=rd3 (Reads.field Tryz.underlying68 h 2 rfl 1 (by kernel_rfl));replace e2:[c2]=_:=e2;simp only [List.cons.injEq,and_true] at e2;obtain ⟨x3,e3,k3⟩:=rd3 (Reads.field Tryz.underlying68 h 3 rfl 1 (by kernel_rfl));replace e3:[c3]=_:=e3;simp only [List.cons.injEq,and_true] at e3;obtain rfl:=e0;obtain rfl:=e1;obtain rfl:=e2;obtain rfl:=e3;exact ⟨⟨x0,x1,x2,x3⟩,rfl,k0,k1,k2,k3⟩
end Go.Proofs.YtifbomimeodibaaGreat
