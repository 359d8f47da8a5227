import Derived.Test.YtifbomimeodibaaGreatV5EB
import Derived.Test.YtifbomimeodibaaGreatV5XD
import Derived.Test.YtifbomimeodibaaGreatProg
import Derived.OpenShut
import Derived.ChangeArms
namespace Go.Proofs.YtifbomimeodibaaGreat
open Go Go.RowKit Go.Eng
set_option linter.unusedVariables false
theorem Wp {α:Type} {w:World} {sz n cap:Nat} {f:α→List Value} {ad:Option Addr} {l:List α} (h:Arr w sz f ad n cap l):n≤maxLen:=by
  obtain ⟨_,ad2,cap2,he,_,h2,h3,_⟩:=h
  cases he
  exact Nat.le_trans h2 h3
def ok5 (x:Int):Prop:=0≤x∧x≤255
theorem rd5 {H:Type} {enc:TypeId×Value→H} {w:World} {cs:List Value} (h:Reads enc Tryz.prog w 5 cs):∃(x:Int),cs=[.int .u8 x]∧ok5 x:=by
  obtain ⟨n,e,k⟩:=Reads.int Tryz.underlying5 h
  exact ⟨n,e,bounds_u8 k⟩
def A6r (l:(List Int)):Prop:=l.length≤maxLen∧∀y∈l,ok5 y
theorem A6t {H:Type} {enc:TypeId×Value→H} {w:World} {cs:List Value} (h:Reads enc Tryz.prog w 22 cs):∃(x:(List Int)) (ad1:Option Addr) (cap2:Nat),cs=[.slice ad1 x.length cap2]∧ArrM (B0 w) 1 (fK .u8) ad1 cap2 x∧A6r x:=by
  obtain ⟨ad,cap,l,e,hA,k⟩:=Reads.slice (f:=(fK .u8)) (ok:=ok5) (sz:=1) Tryz.underlying22 (by kernel_rfl) (by decide) (fun c _ hr=>rd5 hr) (B8 .u8) h
  exact ⟨l,ad,cap,e,hA,⟨Wp (hA w (A4 w)),k⟩⟩
def ok3 (x:Int):Prop:=-9223372036854775808≤x∧x≤9223372036854775807
theorem rd3 {H:Type} {enc:TypeId×Value→H} {w:World} {cs:List Value} (h:Reads enc Tryz.prog w 3 cs):∃(x:Int),cs=[.int .i64 x]∧ok3 x:=by
  obtain ⟨n,e,k⟩:=Reads.int Tryz.underlying3 h
  exact ⟨n,e,bounds_i64 k⟩
theorem A58 {H:Type} {enc:TypeId×Value→H} {w:World} {cs:List Value} (h:Reads enc Tryz.prog w 9 cs):∃s:ByteArray,cs=[.string s]∧s.size≤maxLen:=by
  obtain ⟨f,d,h⟩:=h
  obtain ⟨s,h1,_,h2⟩:=DataW.trod_string Tryz.underlying9 h
  exact ⟨s,h1,h2⟩
def ok9 (x:ByteArray):Prop:=x.size≤maxLen
theorem rd9 {H:Type} {enc:TypeId×Value→H} {w:World} {cs:List Value} (h:Reads enc Tryz.prog w 9 cs):∃(x:ByteArray),cs=[.string x]∧ok9 x:=by
  obtain ⟨n,e,k⟩:=A58 h
  exact ⟨n,e,k⟩
def A63 (x:api_Site):Prop:=ok9 x.Name∧ok3 x.X∧ok3 x.Y∧ok3 x.Z∧ok3 x.Rose∧ok3 x.Gates∧ok3 x.Step∧ok3 x.Width
theorem A6u {H:Type} {enc:TypeId×Value→H} {w:World} {cs:List Value} (h:Reads enc Tryz.prog w 38 cs):∃(x:api_Site),cs=[.string x.Name,.int .i64 x.X,.int .i64 x.Y,.int .i64 x.Z,.int .i64 x.Rose,.int .i64 x.Gates,.int .i64 x.Step,.int .i64 x.Width]∧A63 x:=by
  have hl:=(Reads.len Tryz.underlying38 h).trans (show Tryz.prog.cellsOf 38=8 by kernel_rfl)
  match cs,hl with
  | [c0,c1,c2,c3,c4,c5,c6,c7],_ =>
    obtain ⟨x0,e0,k0⟩:=rd9 (Reads.field Tryz.underlying38 h 0 rfl 1 (by kernel_rfl))
    replace e0:[c0]=_:=e0
    simp only [List.cons.injEq,and_true] at e0
    obtain ⟨x1,e1,k1⟩:=rd3 (Reads.field Tryz.underlying38 h 1 rfl 1 (by kernel_rfl))
    replace e1:[c1]=_:=e1
    simp only [List.cons.injEq,and_true] at e1
    obtain ⟨x2,e2,k2⟩:=rd3 (Reads.field Tryz.underlying38 h 2 rfl 1 (by kernel_rfl))
    replace e2:[c2]=_:=e2
    simp only [List.cons.injEq,and_true] at e2
    obtain ⟨x3,e3,k3⟩:=rd3 (Reads.field Tryz.underlying38 h 3 rfl 1 (by kernel_rfl))
    replace e3:[c3]=_:=e3
    simp only [List.cons.injEq,and_true] at e3
    obtain ⟨x4,e4,k4⟩:=rd3 (Reads.field Tryz.underlying38 h 4 rfl 1 (by kernel_rfl))
    replace e4:[c4]=_:=e4
    simp only [List.cons.injEq,and_true] at e4
    obtain ⟨x5,e5,k5⟩:=rd3 (Reads.field Tryz.underlying38 h 5 rfl 1 (by kernel_rfl))
    replace e5:[c5]=_:=e5
    simp only [List.cons.injEq,and_true] at e5
    obtain ⟨x6,e6,k6⟩:=rd3 (Reads.field Tryz.underlying38 h 6 rfl 1 (by kernel_rfl))
    replace e6:[c6]=_:=e6
    simp only [List.cons.injEq,and_true] at e6
    obtain ⟨x7,e7,k7⟩:=rd3 (Reads.field Tryz.underlying38 h 7 rfl 1 (by kernel_rfl))
    replace e7:[c7]=_:=e7
    simp only [List.cons.injEq,and_true] at e7
    obtain rfl:=e0
    obtain rfl:=e1
    obtain rfl:=e2
    obtain rfl:=e3
    obtain rfl:=e4
    obtain rfl:=e5
    obtain rfl:=e6
    obtain rfl:=e7
    exact ⟨⟨x0,x1,x2,x3,x4,x5,x6,x7⟩,rfl,k0,k1,k2,k3,k4,k5,k6,k7⟩
def Ta (x:api_Span):Prop:=ok3 x.Lo∧ok3 x.Hi
theorem Vj {H:Type} {enc:TypeId×Value→H} {w:World} {cs:List Value} (h:Reads enc Tryz.prog w 146 cs):∃(x:api_Span),cs=[.int .i64 x.Lo,.int .i64 x.Hi]∧Ta x:=by
  have hl:=(Reads.len Tryz.underlying146 h).trans (show Tryz.prog.cellsOf 146=2 by kernel_rfl)
  match cs,hl with
  | [c0,c1],_ =>
    obtain ⟨x0,e0,k0⟩:=rd3 (Reads.field Tryz.underlying146 h 0 rfl 1 (by kernel_rfl))
    replace e0:[c0]=_:=e0
    simp only [List.cons.injEq,and_true] at e0
    obtain ⟨x1,e1,k1⟩:=rd3 (Reads.field Tryz.underlying146 h 1 rfl 1 (by kernel_rfl))
    replace e1:[c1]=_:=e1
    simp only [List.cons.injEq,and_true] at e1
    obtain rfl:=e0
    obtain rfl:=e1
    exact ⟨⟨x0,x1⟩,rfl,k0,k1⟩
def A47 (x:(api_Span×api_Span)):Prop:=Ta x.1∧Ta x.2
theorem A6a {H:Type} {enc:TypeId×Value→H} {w:World} {cs:List Value} (h:Reads enc Tryz.prog w 147 cs):∃(x:(api_Span×api_Span)),cs=[.int .i64 x.1.Lo,.int .i64 x.1.Hi,.int .i64 x.2.Lo,.int .i64 x.2.Hi]∧A47 x:=by
  have hl:=(Reads.arrLen Tryz.underlying147 h).trans (show Tryz.prog.cellsOf 147=4 by kernel_rfl)
  match cs,hl with
  | [c0,c1,c2,c3],_ =>
    obtain ⟨x0,e0,k0⟩:=Vj (Reads.part Tryz.underlying147 h 0 (by decide) 2 (by kernel_rfl))
    replace e0:[c0,c1]=_:=e0
    simp only [List.cons.injEq,and_true] at e0
    obtain ⟨x1,e1,k1⟩:=Vj (Reads.part Tryz.underlying147 h 1 (by decide) 2 (by kernel_rfl))
    replace e1:[c2,c3]=_:=e1
    simp only [List.cons.injEq,and_true] at e1
    obtain ⟨rfl,rfl⟩:=e0
    obtain ⟨rfl,rfl⟩:=e1
    exact ⟨⟨x0,x1⟩,rfl,k0,k1⟩
def A1q (x:api_Echo):Prop:=ok3 x.Kind∧Ta x.Power∧A47 x.Steps∧ok3 x.Spread∧Ta x.Ratio∧Ta x.Match∧Ta x.Turn
theorem A6b {H:Type} {enc:TypeId×Value→H} {w:World} {cs:List Value} (h:Reads enc Tryz.prog w 149 cs):∃(x:api_Echo),cs=[.int .i64 x.Kind,.int .i64 x.Power.Lo,.int .i64 x.Power.Hi,.int .i64 x.Steps.1.Lo,.int .i64 x.Steps.1.Hi,.int .i64 x.Steps.2.Lo,.int .i64 x.Steps.2.Hi,.int .i64 x.Spread,.int .i64 x.Ratio.Lo,.int .i64 x.Ratio.Hi,.int .i64 x.Match.Lo,.int .i64 x.Match.Hi,.int .i64 x.Turn.Lo,.int .i64 x.Turn.Hi]∧A1q x:=by
  have hl:=(Reads.len Tryz.underlying149 h).trans (show Tryz.prog.cellsOf 149=14 by kernel_rfl)
  match cs,hl with
  | [c0,c1,c2,c3,c4,c5,c6,c7,c8,c9,a0,a1,a2,a3],_ =>
    obtain ⟨x0,e0,k0⟩:=rd3 (Reads.field Tryz.underlying149 h 0 rfl 1 (by kernel_rfl))
    replace e0:[c0]=_:=e0
    simp only [List.cons.injEq,and_true] at e0
    obtain ⟨x1,e1,k1⟩:=Vj (Reads.field Tryz.underlying149 h 1 rfl 2 (by kernel_rfl))
    replace e1:[c1,c2]=_:=e1
    simp only [List.cons.injEq,and_true] at e1
    obtain ⟨x2,e2,k2⟩:=A6a (Reads.field Tryz.underlying149 h 2 rfl 4 (by kernel_rfl))
    replace e2:[c3,c4,c5,c6]=_:=e2
    simp only [List.cons.injEq,and_true] at e2
    obtain ⟨x3,e3,k3⟩:=rd3 (Reads.field Tryz.underlying149 h 3 rfl 1 (by kernel_rfl))
    replace e3:[c7]=_:=e3
    simp only [List.cons.injEq,and_true] at e3
    obtain ⟨x4,e4,k4⟩:=Vj (Reads.field Tryz.underlying149 h 4 rfl 2 (by kernel_rfl))
    replace e4:[c8,c9]=_:=e4
    simp only [List.cons.injEq,and_true] at e4
    obtain ⟨x5,e5,k5⟩:=Vj (Reads.field Tryz.underlying149 h 5 rfl 2 (by kernel_rfl))
    replace e5:[a0,a1]=_:=e5
    simp only [List.cons.injEq,and_true] at e5
    obtain ⟨x6,e6,k6⟩:=Vj (Reads.field Tryz.underlying149 h 6 rfl 2 (by kernel_rfl))
    replace e6:[a2,a3]=_:=e6
    simp only [List.cons.injEq,and_true] at e6
    obtain rfl:=e0
    obtain ⟨rfl,rfl⟩:=e1
    obtain ⟨rfl,rfl,rfl,rfl⟩:=e2
    obtain rfl:=e3
    obtain ⟨rfl,rfl⟩:=e4
    obtain ⟨rfl,rfl⟩:=e5
    obtain ⟨rfl,rfl⟩:=e6
    exact ⟨⟨x0,x1,x2,x3,x4,x5,x6⟩,rfl,k0,k1,k2,k3,k4,k5,k6⟩
def A52 (l:(List api_Echo)):Prop:=l.length≤maxLen∧∀y∈l,A1q y
theorem A71 {H:Type} {enc:TypeId×Value→H} {w:World} {cs:List Value} (h:Reads enc Tryz.prog w 87 cs):∃(x:(List api_Echo)) (ad1:Option Addr) (cap2:Nat),cs=[.slice ad1 x.length cap2]∧ArrM (B0 w) 14 api_Echo.cells ad1 cap2 x∧A52 x:=by
  obtain ⟨ad,cap,l,e,hA,k⟩:=Reads.slice (f:=api_Echo.cells) (ok:=A1q) (sz:=14) Tryz.underlying87 (by kernel_rfl) (by decide) (fun c _ hr=>A6b hr) api_Echo.cells_len h
  exact ⟨l,ad,cap,e,hA,⟨Wp (hA w (A4 w)),k⟩⟩
def A64 (l:(List (List api_Echo))):Prop:=l.length≤maxLen∧∀y∈l,A52 y
theorem A6v {H:Type} {enc:TypeId×Value→H} {w:World} {cs:List Value} (h:Reads enc Tryz.prog w 39 cs):∃(x:(List (List api_Echo))) (ad1:Option Addr) (cap2:Nat) (css3:List (List Value)),cs=[.slice ad1 x.length cap2]∧ArrQ (B0 w) 1 Rp87 ad1 cap2 css3 x∧A64 x:=by
  obtain ⟨ad,cap,css,l,e,hA,k⟩:=Reads.sliceQ (R:=Rp87) (ok:=A52) (sz:=1) Tryz.underlying39 (by kernel_rfl) (by decide) (fun c _ hr=>by
    obtain ⟨x,ad1,cap2,e,f0,k⟩:=A71 hr
    exact ⟨x,⟨ad1,cap2,e,f0⟩,k⟩) h
  exact ⟨l,ad,cap,css,e,hA,⟨hA.2.len▸Wp (hA.1 w (A4 w)),k⟩⟩
def A65 (x:api_Sweep):Prop:=A63 x.Site∧ok3 x.Tilt∧ok3 x.Time∧A64 x.Rays
theorem A6w {H:Type} {enc:TypeId×Value→H} {w:World} {cs:List Value} (h:Reads enc Tryz.prog w 41 cs):∃(x:api_Sweep) (ad1:Option Addr) (cap2:Nat) (css3:List (List Value)),cs=[.string x.Site.Name,.int .i64 x.Site.X,.int .i64 x.Site.Y,.int .i64 x.Site.Z,.int .i64 x.Site.Rose,.int .i64 x.Site.Gates,.int .i64 x.Site.Step,.int .i64 x.Site.Width,.int .i64 x.Tilt,.int .i64 x.Time,.slice ad1 x.Rays.length cap2]∧ArrQ (B0 w) 1 Rp87 ad1 cap2 css3 x.Rays∧A65 x:=by
  have hl:=(Reads.len Tryz.underlying41 h).trans (show Tryz.prog.cellsOf 41=11 by kernel_rfl)
  match cs,hl with
  | [c0,c1,c2,c3,c4,c5,c6,c7,c8,c9,a0],_ =>
    obtain ⟨x0,e0,k0⟩:=A6u (Reads.field Tryz.underlying41 h 0 rfl 8 (by kernel_rfl))
    replace e0:[c0,c1,c2,c3,c4,c5,c6,c7]=_:=e0
    simp only [List.cons.injEq,and_true] at e0
    obtain ⟨x1,e1,k1⟩:=rd3 (Reads.field Tryz.underlying41 h 1 rfl 1 (by kernel_rfl))
    replace e1:[c8]=_:=e1
    simp only [List.cons.injEq,and_true] at e1
    obtain ⟨x2,e2,k2⟩:=rd3 (Reads.field Tryz.underlying41 h 2 rfl 1 (by kernel_rfl))
    replace e2:[c9]=_:=e2
    simp only [List.cons.injEq,and_true] at e2
    obtain ⟨x3,ad1_3,cap2_3,css3_3,e3,f3_0,k3⟩:=A6v (Reads.field Tryz.underlying41 h 3 rfl 1 (by kernel_rfl))
    replace e3:[a0]=_:=e3
    simp only [List.cons.injEq,and_true] at e3
    obtain ⟨rfl,rfl,rfl,rfl,rfl,rfl,rfl,rfl⟩:=e0
    obtain rfl:=e1
    obtain rfl:=e2
    obtain rfl:=e3
    exact ⟨⟨x0,x1,x2,x3⟩,ad1_3,cap2_3,css3_3,rfl,f3_0,k0,k1,k2,k3⟩
def A66 (x:api_Grid):Prop:=ok3 x.X∧ok3 x.Y∧ok3 x.Size∧ok3 x.Wide∧ok3 x.High
theorem A6x {H:Type} {enc:TypeId×Value→H} {w:World} {cs:List Value} (h:Reads enc Tryz.prog w 43 cs):∃(x:api_Grid),cs=[.int .i64 x.X,.int .i64 x.Y,.int .i64 x.Size,.int .i64 x.Wide,.int .i64 x.High]∧A66 x:=by
  have hl:=(Reads.len Tryz.underlying43 h).trans (show Tryz.prog.cellsOf 43=5 by kernel_rfl)
  match cs,hl with
  | [c0,c1,c2,c3,c4],_ =>
    obtain ⟨x0,e0,k0⟩:=rd3 (Reads.field Tryz.underlying43 h 0 rfl 1 (by kernel_rfl))
    replace e0:[c0]=_:=e0
    simp only [List.cons.injEq,and_true] at e0
    obtain ⟨x1,e1,k1⟩:=rd3 (Reads.field Tryz.underlying43 h 1 rfl 1 (by kernel_rfl))
    replace e1:[c1]=_:=e1
    simp only [List.cons.injEq,and_true] at e1
    obtain ⟨x2,e2,k2⟩:=rd3 (Reads.field Tryz.underlying43 h 2 rfl 1 (by kernel_rfl))
    replace e2:[c2]=_:=e2
    simp only [List.cons.injEq,and_true] at e2
    obtain ⟨x3,e3,k3⟩:=rd3 (Reads.field Tryz.underlying43 h 3 rfl 1 (by kernel_rfl))
    replace e3:[c3]=_:=e3
    simp only [List.cons.injEq,and_true] at e3
    obtain ⟨x4,e4,k4⟩:=rd3 (Reads.field Tryz.underlying43 h 4 rfl 1 (by kernel_rfl))
    replace e4:[c4]=_:=e4
    simp only [List.cons.injEq,and_true] at e4
    obtain rfl:=e0
    obtain rfl:=e1
    obtain rfl:=e2
    obtain rfl:=e3
    obtain rfl:=e4
    exact ⟨⟨x0,x1,x2,x3,x4⟩,rfl,k0,k1,k2,k3,k4⟩
def A67 (l:(List api_Span)):Prop:=l.length≤maxLen∧∀y∈l,Ta y
theorem A6y {H:Type} {enc:TypeId×Value→H} {w:World} {cs:List Value} (h:Reads enc Tryz.prog w 44 cs):∃(x:(List api_Span)) (ad1:Option Addr) (cap2:Nat),cs=[.slice ad1 x.length cap2]∧ArrM (B0 w) 2 api_Span.cells ad1 cap2 x∧A67 x:=by
  obtain ⟨ad,cap,l,e,hA,k⟩:=Reads.slice (f:=api_Span.cells) (ok:=Ta) (sz:=2) Tryz.underlying44 (by kernel_rfl) (by decide) (fun c _ hr=>Vj hr) api_Span.cells_len h
  exact ⟨l,ad,cap,e,hA,⟨Wp (hA w (A4 w)),k⟩⟩
def A68 (x:api_Field):Prop:=A66 x.Grid∧A67 x.Vals
theorem A6z {H:Type} {enc:TypeId×Value→H} {w:World} {cs:List Value} (h:Reads enc Tryz.prog w 46 cs):∃(x:api_Field) (ad1:Option Addr) (cap2:Nat),cs=[.int .i64 x.Grid.X,.int .i64 x.Grid.Y,.int .i64 x.Grid.Size,.int .i64 x.Grid.Wide,.int .i64 x.Grid.High,.slice ad1 x.Vals.length cap2]∧ArrM (B0 w) 2 api_Span.cells ad1 cap2 x.Vals∧A68 x:=by
  have hl:=(Reads.len Tryz.underlying46 h).trans (show Tryz.prog.cellsOf 46=6 by kernel_rfl)
  match cs,hl with
  | [c0,c1,c2,c3,c4,c5],_ =>
    obtain ⟨x0,e0,k0⟩:=A6x (Reads.field Tryz.underlying46 h 0 rfl 5 (by kernel_rfl))
    replace e0:[c0,c1,c2,c3,c4]=_:=e0
    simp only [List.cons.injEq,and_true] at e0
    obtain ⟨x1,ad1_1,cap2_1,e1,f1_0,k1⟩:=A6y (Reads.field Tryz.underlying46 h 1 rfl 1 (by kernel_rfl))
    replace e1:[c5]=_:=e1
    simp only [List.cons.injEq,and_true] at e1
    obtain ⟨rfl,rfl,rfl,rfl,rfl⟩:=e0
    obtain rfl:=e1
    exact ⟨⟨x0,x1⟩,ad1_1,cap2_1,rfl,f1_0,k0,k1⟩
def A6s (x:ref12_Item):Prop:=ok3 x.Kind∧ok9 x.Name∧ok3 x.Time∧A65 x.Sweep∧A68 x.Field∧ok9 x.Text
theorem A70 {H:Type} {enc:TypeId×Value→H} {w:World} {cs:List Value} (h:Reads enc Tryz.prog w 49 cs):∃(x:ref12_Item) (ad1:Option Addr) (cap2:Nat) (css3:List (List Value)) (ad4:Option Addr) (cap5:Nat),cs=[.int .i64 x.Kind,.string x.Name,.int .i64 x.Time,.string x.Sweep.Site.Name,.int .i64 x.Sweep.Site.X,.int .i64 x.Sweep.Site.Y,.int .i64 x.Sweep.Site.Z,.int .i64 x.Sweep.Site.Rose,.int .i64 x.Sweep.Site.Gates,.int .i64 x.Sweep.Site.Step,.int .i64 x.Sweep.Site.Width,.int .i64 x.Sweep.Tilt,.int .i64 x.Sweep.Time,.slice ad1 x.Sweep.Rays.length cap2,.int .i64 x.Field.Grid.X,.int .i64 x.Field.Grid.Y,.int .i64 x.Field.Grid.Size,.int .i64 x.Field.Grid.Wide,.int .i64 x.Field.Grid.High,.slice ad4 x.Field.Vals.length cap5,.string x.Text]∧ArrQ (B0 w) 1 Rp87 ad1 cap2 css3 x.Sweep.Rays∧ArrM (B0 w) 2 api_Span.cells ad4 cap5 x.Field.Vals∧A6s x:=by
  have hl:=(Reads.len Tryz.underlying49 h).trans (show Tryz.prog.cellsOf 49=21 by kernel_rfl)
  match cs,hl with
  | [c0,c1,c2,c3,c4,c5,c6,c7,c8,c9,a0,a1,a2,a3,a4,a5,a6,a7,a8,a9,aA],_ =>
    obtain ⟨x0,e0,k0⟩:=rd3 (Reads.field Tryz.underlying49 h 0 rfl 1 (by kernel_rfl))
    replace e0:[c0]=_:=e0
    simp only [List.cons.injEq,and_true] at e0
    obtain ⟨x1,e1,k1⟩:=rd9 (Reads.field Tryz.underlying49 h 1 rfl 1 (by kernel_rfl))
    replace e1:[c1]=_:=e1
    simp only [List.cons.injEq,and_true] at e1
    obtain ⟨x2,e2,k2⟩:=rd3 (Reads.field Tryz.underlying49 h 2 rfl 1 (by kernel_rfl))
    replace e2:[c2]=_:=e2
    simp only [List.cons.injEq,and_true] at e2
    obtain ⟨x3,ad1_3,cap2_3,css3_3,e3,f3_0,k3⟩:=A6w (Reads.field Tryz.underlying49 h 3 rfl 11 (by kernel_rfl))
    replace e3:[c3,c4,c5,c6,c7,c8,c9,a0,a1,a2,a3]=_:=e3
    simp only [List.cons.injEq,and_true] at e3
    obtain ⟨x4,ad1_4,cap2_4,e4,f4_0,k4⟩:=A6z (Reads.field Tryz.underlying49 h 4 rfl 6 (by kernel_rfl))
    replace e4:[a4,a5,a6,a7,a8,a9]=_:=e4
    simp only [List.cons.injEq,and_true] at e4
    obtain ⟨x5,e5,k5⟩:=rd9 (Reads.field Tryz.underlying49 h 5 rfl 1 (by kernel_rfl))
    replace e5:[aA]=_:=e5
    simp only [List.cons.injEq,and_true] at e5
    obtain rfl:=e0
    obtain rfl:=e1
    obtain rfl:=e2
    obtain ⟨rfl,rfl,rfl,rfl,rfl,rfl,rfl,rfl,rfl,rfl,rfl⟩:=e3
    obtain ⟨rfl,rfl,rfl,rfl,rfl,rfl⟩:=e4
    obtain rfl:=e5
    exact ⟨⟨x0,x1,x2,x3,x4,x5⟩,ad1_3,cap2_3,css3_3,ad1_4,cap2_4,rfl,f3_0,f4_0,k0,k1,k2,k3,k4,k5⟩
end Go.Proofs.YtifbomimeodibaaGreat
