import Derived.Test.YtkbjbnkkfifbmaaGreatR7XD
import Derived.Test.YtkbjbnkkfifbmaaGreatProg
import Derived.OpenShut
import Derived.ChangeArms
namespace Go.Proofs.YtkbjbnkkfifbmaaGreat
open Go Go.RowKit Go.Eng
set_option linter.unusedVariables false
def ok3 (x:Int):Prop:=-9223372036854775808≤x∧x≤9223372036854775807
theorem rd3 {H:Type} {enc:TypeId×Value→H} {w:World} {cs:List Value} (h:Reads enc Tryz.prog w 3 cs):∃(x:Int),cs=[.int .i64 x]∧ok3 x:=by
  obtain ⟨n,e,k⟩:=Reads.int Tryz.underlying3 h;exact ⟨n,e,bounds_i64 k⟩
def A4v (x:api_Grid):Prop:=ok3 x.X∧ok3 x.Y∧ok3 x.Size∧ok3 x.Wide∧ok3 x.High
theorem A5r {H:Type} {enc:TypeId×Value→H} {w:World} {cs:List Value} (h:Reads enc Tryz.prog w 32 cs):∃(x:api_Grid),cs=[.int .i64 x.X,.int .i64 x.Y,.int .i64 x.Size,.int .i64 x.Wide,.int .i64 x.High]∧A4v x:=by
  have hl:=(Reads.len Tryz.underlying32 h).trans (show Tryz.prog.cellsOf 32=5 by kernel_rfl)
  match cs,hl with
  | [c0,c1,c2,c3,c4],_ =>
    obtain ⟨x0,e0,k0⟩:=rd3 (Reads.field Tryz.underlying32 h 0 rfl 1 (by kernel_rfl));replace e0:[c0]=_:=e0;simp only [List.cons.injEq,and_true] at e0;obtain ⟨x1,e1,k1⟩:=rd3 (Reads.field Tryz.underlying32 h 1 rfl 1 (by kernel_rfl));replace e1:[c1]=_:=e1;simp only [List.cons.injEq,and_true] at e1;obtain ⟨x2,e2,k2⟩:=rd3 (Reads.field Tryz.underlying32 h 2 rfl 1 (by kernel_rfl));replace e2:[c2]=_:=e2;simp only [List.cons.injEq,and_true] at e2;obtain ⟨x3,e3,k3⟩:=rd3 (Reads.field Tryz.underlying32 h 3 rfl 1 (by kernel_rfl));replace e3:[c3]=_:=e3;simp only [List.cons.injEq,and_true] at e3;obtain ⟨x4,e4,k4⟩:=rd3 (Reads.field Tryz.underlying32 h 4 rfl 1 (by kernel_rfl));replace e4:[c4]=_:=e4;simp only [List.cons.injEq,and_true] at e4;obtain rfl:=e0;obtain rfl:=e1;obtain rfl:=e2;obtain rfl:=e3;obtain rfl:=e4;exact ⟨⟨x0,x1,x2,x3,x4⟩,rfl,k0,k1,k2,k3,k4⟩
def A3v (x:api_Span):Prop:=ok3 x.Lo∧ok3 x.Hi
theorem A52 {H:Type} {enc:TypeId×Value→H} {w:World} {cs:List Value} (h:Reads enc Tryz.prog w 34 cs):∃(x:api_Span),cs=[.int .i64 x.Lo,.int .i64 x.Hi]∧A3v x:=by
  have hl:=(Reads.len Tryz.underlying34 h).trans (show Tryz.prog.cellsOf 34=2 by kernel_rfl)
  match cs,hl with
  | [c0,c1],_ =>
    obtain ⟨x0,e0,k0⟩:=rd3 (Reads.field Tryz.underlying34 h 0 rfl 1 (by kernel_rfl));replace e0:[c0]=_:=e0;simp only [List.cons.injEq,and_true] at e0;obtain ⟨x1,e1,k1⟩:=rd3 (Reads.field Tryz.underlying34 h 1 rfl 1 (by kernel_rfl));replace e1:[c1]=_:=e1;simp only [List.cons.injEq,and_true] at e1;obtain rfl:=e0;obtain rfl:=e1;exact ⟨⟨x0,x1⟩,rfl,k0,k1⟩
theorem A41 {H:Type} {enc:TypeId×Value→H} {w:World} {cs:List Value} (h:Reads enc Tryz.prog w 9 cs):∃s:ByteArray,cs=[.string s]∧s.size≤maxLen:=by
  obtain ⟨f,d,h⟩:=h;obtain ⟨s,h1,_,h2⟩:=DataW.trod_string Tryz.underlying9 h;exact ⟨s,h1,h2⟩
def ok9 (x:ByteArray):Prop:=x.size≤maxLen
theorem rd9 {H:Type} {enc:TypeId×Value→H} {w:World} {cs:List Value} (h:Reads enc Tryz.prog w 9 cs):∃(x:ByteArray),cs=[.string x]∧ok9 x:=by
  obtain ⟨n,e,k⟩:=A41 h;exact ⟨n,e,k⟩
def A2k (x:api_Site):Prop:=ok9 x.Name∧ok3 x.X∧ok3 x.Y∧ok3 x.Z∧ok3 x.Rose∧ok3 x.Gates∧ok3 x.Step∧ok3 x.Width
theorem A50 {H:Type} {enc:TypeId×Value→H} {w:World} {cs:List Value} (h:Reads enc Tryz.prog w 136 cs):∃(x:api_Site),cs=[.string x.Name,.int .i64 x.X,.int .i64 x.Y,.int .i64 x.Z,.int .i64 x.Rose,.int .i64 x.Gates,.int .i64 x.Step,.int .i64 x.Width]∧A2k x:=by
  have hl:=(Reads.len Tryz.underlying136 h).trans (show Tryz.prog.cellsOf 136=8 by kernel_rfl)
  match cs,hl with
  | [c0,c1,c2,c3,c4,c5,c6,c7],_ =>
    obtain ⟨x0,e0,k0⟩:=rd9 (Reads.field Tryz.underlying136 h 0 rfl 1 (by kernel_rfl));replace e0:[c0]=_:=e0;simp only [List.cons.injEq,and_true] at e0;obtain ⟨x1,e1,k1⟩:=rd3 (Reads.field Tryz.underlying136 h 1 rfl 1 (by kernel_rfl));replace e1:[c1]=_:=e1;simp only [List.cons.injEq,and_true] at e1;obtain ⟨x2,e2,k2⟩:=rd3 (Reads.field Tryz.underlying136 h 2 rfl 1 (by kernel_rfl));replace e2:[c2]=_:=e2;simp only [List.cons.injEq,and_true] at e2;obtain ⟨x3,e3,k3⟩:=rd3 (Reads.field Tryz.underlying136 h 3 rfl 1 (by kernel_rfl));replace e3:[c3]=_:=e3;simp only [List.cons.injEq,and_true] at e3;obtain ⟨x4,e4,k4⟩:=rd3 (Reads.field Tryz.underlying136 h 4 rfl 1 (by kernel_rfl));replace e4:[c4]=_:=e4;simp only [List.cons.injEq,and_true] at e4;obtain ⟨x5,e5,k5⟩:=rd3 (Reads.field Tryz.underlying136 h 5 rfl 1 (by kernel_rfl));replace e5:[c5]=_:=e5;simp only [List.cons.injEq,and_true] at e5;obtain ⟨x6,e6,k6⟩:=rd3 (Reads.field Tryz.underlying136 h 6 rfl 1 (by kernel_rfl));replace e6:[c6]=_:=e6;simp only [List.cons.injEq,and_true] at e6;obtain ⟨x7,e7,k7⟩:=rd3 (Reads.field Tryz.underlying136 h 7 rfl 1 (by kernel_rfl));replace e7:[c7]=_:=e7;simp only [List.cons.injEq,and_true] at e7;obtain rfl:=e0;obtain rfl:=e1;obtain rfl:=e2;obtain rfl:=e3;obtain rfl:=e4;obtain rfl:=e5;obtain rfl:=e6;obtain rfl:=e7;exact ⟨⟨x0,x1,x2,x3,x4,x5,x6,x7⟩,rfl,k0,k1,k2,k3,k4,k5,k6,k7⟩
def Zw (x:mosaic_Radar):Prop:=A2k x.Site∧A3v x.Offset
theorem A51 {H:Type} {enc:TypeId×Value→H} {w:World} {cs:List Value} (h:Reads enc Tryz.prog w 138 cs):∃(x:mosaic_Radar),cs=[.string x.Site.Name,.int .i64 x.Site.X,.int .i64 x.Site.Y,.int .i64 x.Site.Z,.int .i64 x.Site.Rose,.int .i64 x.Site.Gates,.int .i64 x.Site.Step,.int .i64 x.Site.Width,.int .i64 x.Offset.Lo,.int .i64 x.Offset.Hi]∧Zw x:=by
  have hl:=(Reads.len Tryz.underlying138 h).trans (show Tryz.prog.cellsOf 138=10 by kernel_rfl)
  match cs,hl with
  | [c0,c1,c2,c3,c4,c5,c6,c7,c8,c9],_ =>
    obtain ⟨x0,e0,k0⟩:=A50 (Reads.field Tryz.underlying138 h 0 rfl 8 (by kernel_rfl));replace e0:[c0,c1,c2,c3,c4,c5,c6,c7]=_:=e0;simp only [List.cons.injEq,and_true] at e0;obtain ⟨x1,e1,k1⟩:=A52 (Reads.field Tryz.underlying138 h 1 rfl 2 (by kernel_rfl));replace e1:[c8,c9]=_:=e1;simp only [List.cons.injEq,and_true] at e1;obtain ⟨rfl,rfl,rfl,rfl,rfl,rfl,rfl,rfl⟩:=e0;obtain ⟨rfl,rfl⟩:=e1;exact ⟨⟨x0,x1⟩,rfl,k0,k1⟩
def A4w (l:(List mosaic_Radar)):Prop:=∀y∈l,Zw y
theorem A5s {H:Type} {enc:TypeId×Value→H} {w:World} {cs:List Value} (h:Reads enc Tryz.prog w 35 cs):∃(x:(List mosaic_Radar)) (ad1:Option Addr) (cap2:Nat),cs=[.slice ad1 x.length cap2]∧ArrM (Bz w) 10 mosaic_Radar.cells ad1 cap2 x∧A4w x:=by
  obtain ⟨ad,cap,l,e,hA,k⟩:=Reads.slice (f:=mosaic_Radar.cells) (ok:=Zw) (sz:=10) Tryz.underlying35 (by kernel_rfl) (by decide) (fun c _ hr=>A51 hr) mosaic_Radar.cells_len h;exact ⟨l,ad,cap,e,hA,k⟩
def A5n (x:mosaic_Spec):Prop:=A4v x.Grid∧A3v x.Earth∧A4w x.Radars∧ok3 x.Age
theorem A5t {H:Type} {enc:TypeId×Value→H} {w:World} {cs:List Value} (h:Reads enc Tryz.prog w 37 cs):∃(x:mosaic_Spec) (ad1:Option Addr) (cap2:Nat),cs=[.int .i64 x.Grid.X,.int .i64 x.Grid.Y,.int .i64 x.Grid.Size,.int .i64 x.Grid.Wide,.int .i64 x.Grid.High,.int .i64 x.Earth.Lo,.int .i64 x.Earth.Hi,.slice ad1 x.Radars.length cap2,.int .i64 x.Age]∧ArrM (Bz w) 10 mosaic_Radar.cells ad1 cap2 x.Radars∧A5n x:=by
  have hl:=(Reads.len Tryz.underlying37 h).trans (show Tryz.prog.cellsOf 37=9 by kernel_rfl)
  match cs,hl with
  | [c0,c1,c2,c3,c4,c5,c6,c7,c8],_ =>
    obtain ⟨x0,e0,k0⟩:=A5r (Reads.field Tryz.underlying37 h 0 rfl 5 (by kernel_rfl));replace e0:[c0,c1,c2,c3,c4]=_:=e0;simp only [List.cons.injEq,and_true] at e0;obtain ⟨x1,e1,k1⟩:=A52 (Reads.field Tryz.underlying37 h 1 rfl 2 (by kernel_rfl));replace e1:[c5,c6]=_:=e1;simp only [List.cons.injEq,and_true] at e1;obtain ⟨x2,ad1_2,cap2_2,e2,f2_0,k2⟩:=A5s (Reads.field Tryz.underlying37 h 2 rfl 1 (by kernel_rfl));replace e2:[c7]=_:=e2;simp only [List.cons.injEq,and_true] at e2;obtain ⟨x3,e3,k3⟩:=rd3 (Reads.field Tryz.underlying37 h 3 rfl 1 (by kernel_rfl));replace e3:[c8]=_:=e3;simp only [List.cons.injEq,and_true] at e3;obtain ⟨rfl,rfl,rfl,rfl,rfl⟩:=e0;obtain ⟨rfl,rfl⟩:=e1;obtain rfl:=e2;obtain rfl:=e3;exact ⟨⟨x0,x1,x2,x3⟩,ad1_2,cap2_2,rfl,f2_0,k0,k1,k2,k3⟩
def ok5 (x:Int):Prop:=0≤x∧x≤255
theorem rd5 {H:Type} {enc:TypeId×Value→H} {w:World} {cs:List Value} (h:Reads enc Tryz.prog w 5 cs):∃(x:Int),cs=[.int .u8 x]∧ok5 x:=by
  obtain ⟨n,e,k⟩:=Reads.int Tryz.underlying5 h;exact ⟨n,e,bounds_u8 k⟩
def A5o (l:(List Int)):Prop:=∀y∈l,ok5 y
theorem A5u {H:Type} {enc:TypeId×Value→H} {w:World} {cs:List Value} (h:Reads enc Tryz.prog w 80 cs):∃(x:(List Int)) (ad1:Option Addr) (cap2:Nat),cs=[.slice ad1 x.length cap2]∧ArrM (Bz w) 1 (fK .u8) ad1 cap2 x∧A5o x:=by
  obtain ⟨ad,cap,l,e,hA,k⟩:=Reads.slice (f:=(fK .u8)) (ok:=ok5) (sz:=1) Tryz.underlying80 (by kernel_rfl) (by decide) (fun c _ hr=>rd5 hr) (Fg .u8) h;exact ⟨l,ad,cap,e,hA,k⟩
end Go.Proofs.YtkbjbnkkfifbmaaGreat
