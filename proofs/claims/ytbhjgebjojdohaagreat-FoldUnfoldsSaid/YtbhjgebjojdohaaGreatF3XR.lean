import Derived.Test.YtbhjgebjojdohaaGreatF3XD
import Derived.Test.YtbhjgebjojdohaaGreatProg
import Derived.OpenShut
import Derived.ChangeArms
namespace Go.Proofs.YtbhjgebjojdohaaGreat
open Go Go.RowKit Go.Eng
set_option linter.unusedVariables false
def ok3 (x:Int):Prop:=-9223372036854775808≤x∧x≤9223372036854775807
theorem rd3 {H:Type} {enc:TypeId×Value→H} {w:World} {cs:List Value} (h:Reads enc Tryz.prog w 3 cs):∃(x:Int),cs=[.int .i64 x]∧ok3 x:=by
  obtain ⟨n,e,k⟩:=Reads.int Tryz.underlying3 h;exact ⟨n,e,bounds_i64 k⟩
def B75 (x:zH):Prop:=ok3 x.Lambda∧ok3 x.Kind∧ok3 x.First∧ok3 x.Second∧ok3 x.Count
theorem B77 {H:Type} {enc:TypeId×Value→H} {w:World} {cs:List Value} (h:Reads enc Tryz.prog w 23 cs):∃(x:zH),cs=[.int .i64 x.Lambda,.int .i64 x.Kind,.int .i64 x.First,.int .i64 x.Second,.int .i64 x.Count]∧B75 x:=by
  have hl:=(Reads.len Tryz.underlying23 h).trans (show Tryz.prog.cellsOf 23=5 by kernel_rfl)
  match cs,hl with
  | [c0,c1,c2,c3,c4],_ =>
    obtain ⟨x0,e0,k0⟩:=rd3 (Reads.field Tryz.underlying23 h 0 rfl 1 (by kernel_rfl));replace e0:[c0]=_:=e0;simp only [List.cons.injEq,and_true] at e0;obtain ⟨x1,e1,k1⟩:=rd3 (Reads.field Tryz.underlying23 h 1 rfl 1 (by kernel_rfl));replace e1:[c1]=_:=e1;simp only [List.cons.injEq,and_true] at e1;obtain ⟨x2,e2,k2⟩:=rd3 (Reads.field Tryz.underlying23 h 2 rfl 1 (by kernel_rfl));replace e2:[c2]=_:=e2;simp only [List.cons.injEq,and_true] at e2;obtain ⟨x3,e3,k3⟩:=rd3 (Reads.field Tryz.underlying23 h 3 rfl 1 (by kernel_rfl));replace e3:[c3]=_:=e3;simp only [List.cons.injEq,and_true] at e3;obtain ⟨x4,e4,k4⟩:=rd3 (Reads.field Tryz.underlying23 h 4 rfl 1 (by kernel_rfl));replace e4:[c4]=_:=e4;simp only [List.cons.injEq,and_true] at e4;obtain rfl:=e0;obtain rfl:=e1;obtain rfl:=e2;obtain rfl:=e3;obtain rfl:=e4;exact ⟨⟨x0,x1,x2,x3,x4⟩,rfl,k0,k1,k2,k3,k4⟩
theorem B5j {H:Type} {enc:TypeId×Value→H} {w:World} {cs:List Value} (h:Reads enc Tryz.prog w 9 cs):∃s:ByteArray,cs=[.string s]∧s.size≤maxLen:=by
  obtain ⟨f,d,h⟩:=h;obtain ⟨s,h1,_,h2⟩:=DataW.trod_string Tryz.underlying9 h;exact ⟨s,h1,h2⟩
def ok9 (x:ByteArray):Prop:=x.size≤maxLen
theorem rd9 {H:Type} {enc:TypeId×Value→H} {w:World} {cs:List Value} (h:Reads enc Tryz.prog w 9 cs):∃(x:ByteArray),cs=[.string x]∧ok9 x:=by
  obtain ⟨n,e,k⟩:=B5j h;exact ⟨n,e,k⟩
def B6k (x:zS):Prop:=ok9 x.Name∧ok3 x.X∧ok3 x.Y∧ok3 x.Z∧ok3 x.Rose∧ok3 x.Gates∧ok3 x.Step∧ok3 x.Width
theorem B78 {H:Type} {enc:TypeId×Value→H} {w:World} {cs:List Value} (h:Reads enc Tryz.prog w 25 cs):∃(x:zS),cs=[.string x.Name,.int .i64 x.X,.int .i64 x.Y,.int .i64 x.Z,.int .i64 x.Rose,.int .i64 x.Gates,.int .i64 x.Step,.int .i64 x.Width]∧B6k x:=by
  have hl:=(Reads.len Tryz.underlying25 h).trans (show Tryz.prog.cellsOf 25=8 by kernel_rfl)
  match cs,hl with
  | [c0,c1,c2,c3,c4,c5,c6,c7],_ =>
    obtain ⟨x0,e0,k0⟩:=rd9 (Reads.field Tryz.underlying25 h 0 rfl 1 (by kernel_rfl));replace e0:[c0]=_:=e0;simp only [List.cons.injEq,and_true] at e0;obtain ⟨x1,e1,k1⟩:=rd3 (Reads.field Tryz.underlying25 h 1 rfl 1 (by kernel_rfl));replace e1:[c1]=_:=e1;simp only [List.cons.injEq,and_true] at e1;obtain ⟨x2,e2,k2⟩:=rd3 (Reads.field Tryz.underlying25 h 2 rfl 1 (by kernel_rfl));replace e2:[c2]=_:=e2;simp only [List.cons.injEq,and_true] at e2;obtain ⟨x3,e3,k3⟩:=rd3 (Reads.field Tryz.underlying25 h 3 rfl 1 (by kernel_rfl));replace e3:[c3]=_:=e3;simp only [List.cons.injEq,and_true] at e3;obtain ⟨x4,e4,k4⟩:=rd3 (Reads.field Tryz.underlying25 h 4 rfl 1 (by kernel_rfl));replace e4:[c4]=_:=e4;simp only [List.cons.injEq,and_true] at e4;obtain ⟨x5,e5,k5⟩:=rd3 (Reads.field Tryz.underlying25 h 5 rfl 1 (by kernel_rfl));replace e5:[c5]=_:=e5;simp only [List.cons.injEq,and_true] at e5;obtain ⟨x6,e6,k6⟩:=rd3 (Reads.field Tryz.underlying25 h 6 rfl 1 (by kernel_rfl));replace e6:[c6]=_:=e6;simp only [List.cons.injEq,and_true] at e6;obtain ⟨x7,e7,k7⟩:=rd3 (Reads.field Tryz.underlying25 h 7 rfl 1 (by kernel_rfl));replace e7:[c7]=_:=e7;simp only [List.cons.injEq,and_true] at e7;obtain rfl:=e0;obtain rfl:=e1;obtain rfl:=e2;obtain rfl:=e3;obtain rfl:=e4;obtain rfl:=e5;obtain rfl:=e6;obtain rfl:=e7;exact ⟨⟨x0,x1,x2,x3,x4,x5,x6,x7⟩,rfl,k0,k1,k2,k3,k4,k5,k6,k7⟩
def A49 (x:zA):Prop:=ok3 x.Lo∧ok3 x.Hi
theorem A7n {H:Type} {enc:TypeId×Value→H} {w:World} {cs:List Value} (h:Reads enc Tryz.prog w 52 cs):∃(x:zA),cs=[.int .i64 x.Lo,.int .i64 x.Hi]∧A49 x:=by
  have hl:=(Reads.len Tryz.underlying52 h).trans (show Tryz.prog.cellsOf 52=2 by kernel_rfl)
  match cs,hl with
  | [c0,c1],_ =>
    obtain ⟨x0,e0,k0⟩:=rd3 (Reads.field Tryz.underlying52 h 0 rfl 1 (by kernel_rfl));replace e0:[c0]=_:=e0;simp only [List.cons.injEq,and_true] at e0;obtain ⟨x1,e1,k1⟩:=rd3 (Reads.field Tryz.underlying52 h 1 rfl 1 (by kernel_rfl));replace e1:[c1]=_:=e1;simp only [List.cons.injEq,and_true] at e1;obtain rfl:=e0;obtain rfl:=e1;exact ⟨⟨x0,x1⟩,rfl,k0,k1⟩
def B6m (x:(zA×zA)):Prop:=A49 x.1∧A49 x.2
theorem B7c {H:Type} {enc:TypeId×Value→H} {w:World} {cs:List Value} (h:Reads enc Tryz.prog w 53 cs):∃(x:(zA×zA)),cs=[.int .i64 x.1.Lo,.int .i64 x.1.Hi,.int .i64 x.2.Lo,.int .i64 x.2.Hi]∧B6m x:=by
  have hl:=(Reads.arrLen Tryz.underlying53 h).trans (show Tryz.prog.cellsOf 53=4 by kernel_rfl)
  match cs,hl with
  | [c0,c1,c2,c3],_ =>
    obtain ⟨x0,e0,k0⟩:=A7n (Reads.part Tryz.underlying53 h 0 (by decide) 2 (by kernel_rfl));replace e0:[c0,c1]=_:=e0;simp only [List.cons.injEq,and_true] at e0;obtain ⟨x1,e1,k1⟩:=A7n (Reads.part Tryz.underlying53 h 1 (by decide) 2 (by kernel_rfl));replace e1:[c2,c3]=_:=e1;simp only [List.cons.injEq,and_true] at e1;obtain ⟨rfl,rfl⟩:=e0;obtain ⟨rfl,rfl⟩:=e1;exact ⟨⟨x0,x1⟩,rfl,k0,k1⟩
def B4w (x:zE):Prop:=ok3 x.Kind∧A49 x.Power∧B6m x.Steps∧ok3 x.Spread∧A49 x.Ratio∧A49 x.Match∧A49 x.Turn
theorem B7d {H:Type} {enc:TypeId×Value→H} {w:World} {cs:List Value} (h:Reads enc Tryz.prog w 55 cs):∃(x:zE),cs=[.int .i64 x.Kind,.int .i64 x.Power.Lo,.int .i64 x.Power.Hi,.int .i64 x.Steps.1.Lo,.int .i64 x.Steps.1.Hi,.int .i64 x.Steps.2.Lo,.int .i64 x.Steps.2.Hi,.int .i64 x.Spread,.int .i64 x.Ratio.Lo,.int .i64 x.Ratio.Hi,.int .i64 x.Match.Lo,.int .i64 x.Match.Hi,.int .i64 x.Turn.Lo,.int .i64 x.Turn.Hi]∧B4w x:=by
  have hl:=(Reads.len Tryz.underlying55 h).trans (show Tryz.prog.cellsOf 55=14 by kernel_rfl)
  match cs,hl with
  | [c0,c1,c2,c3,c4,c5,c6,c7,c8,c9,a0,a1,a2,a3],_ =>
    obtain ⟨x0,e0,k0⟩:=rd3 (Reads.field Tryz.underlying55 h 0 rfl 1 (by kernel_rfl));replace e0:[c0]=_:=e0;simp only [List.cons.injEq,and_true] at e0;obtain ⟨x1,e1,k1⟩:=A7n (Reads.field Tryz.underlying55 h 1 rfl 2 (by kernel_rfl));replace e1:[c1,c2]=_:=e1;simp only [List.cons.injEq,and_true] at e1;obtain ⟨x2,e2,k2⟩:=B7c (Reads.field Tryz.underlying55 h 2 rfl 4 (by kernel_rfl));replace e2:[c3,c4,c5,c6]=_:=e2;simp only [List.cons.injEq,and_true] at e2;obtain ⟨x3,e3,k3⟩:=rd3 (Reads.field Tryz.underlying55 h 3 rfl 1 (by kernel_rfl));replace e3:[c7]=_:=e3;simp only [List.cons.injEq,and_true] at e3;obtain ⟨x4,e4,k4⟩:=A7n (Reads.field Tryz.underlying55 h 4 rfl 2 (by kernel_rfl));replace e4:[c8,c9]=_:=e4;simp only [List.cons.injEq,and_true] at e4;obtain ⟨x5,e5,k5⟩:=A7n (Reads.field Tryz.underlying55 h 5 rfl 2 (by kernel_rfl));replace e5:[a0,a1]=_:=e5;simp only [List.cons.injEq,and_true] at e5;obtain ⟨x6,e6,k6⟩:=A7n (Reads.field Tryz.underlying55 h 6 rfl 2 (by kernel_rfl));replace e6:[a2,a3]=_:=e6;simp only [List.cons.injEq,and_true] at e6;obtain rfl:=e0;obtain ⟨rfl,rfl⟩:=e1;obtain ⟨rfl,rfl,rfl,rfl⟩:=e2;obtain rfl:=e3;obtain ⟨rfl,rfl⟩:=e4;obtain ⟨rfl,rfl⟩:=e5;obtain ⟨rfl,rfl⟩:=e6;exact ⟨⟨x0,x1,x2,x3,x4,x5,x6⟩,rfl,k0,k1,k2,k3,k4,k5,k6⟩
def B4v (l:(List zE)):Prop:=∀y∈l,B4w y
theorem B7b {H:Type} {enc:TypeId×Value→H} {w:World} {cs:List Value} (h:Reads enc Tryz.prog w 30 cs):∃(x:(List zE)) (ad1:Option Addr) (cap2:Nat),cs=[.slice ad1 x.length cap2]∧ArrM (Bs w) 14 zE.cells ad1 cap2 x∧B4v x:=by
  obtain ⟨ad,cap,l,e,hA,k⟩:=Reads.slice (f:=zE.cells) (ok:=B4w) (sz:=14) Tryz.underlying30 (by kernel_rfl) (by decide) (fun c _ hr=>B7d hr) zE.cells_len h;exact ⟨l,ad,cap,e,hA,k⟩
def B6l (l:(List (List zE))):Prop:=∀y∈l,B4v y
theorem B79 {H:Type} {enc:TypeId×Value→H} {w:World} {cs:List Value} (h:Reads enc Tryz.prog w 26 cs):∃(x:(List (List zE))) (ad1:Option Addr) (cap2:Nat) (css3:List (List Value)),cs=[.slice ad1 x.length cap2]∧ArrQ (Bs w) 1 Rp30 ad1 cap2 css3 x∧B6l x:=by
  obtain ⟨ad,cap,css,l,e,hA,k⟩:=Reads.sliceQ (R:=Rp30) (ok:=B4v) (sz:=1) Tryz.underlying26 (by kernel_rfl) (by decide) (fun c _ hr=>by
    obtain ⟨x,ad1,cap2,e,f0,k⟩:=B7b hr;exact ⟨x,⟨ad1,cap2,e,f0⟩,k⟩) h
  exact ⟨l,ad,cap,css,e,hA,k⟩
def B76 (x:zN):Prop:=B6k x.Site∧ok3 x.Tilt∧ok3 x.Time∧B6l x.Rays
theorem B7a {H:Type} {enc:TypeId×Value→H} {w:World} {cs:List Value} (h:Reads enc Tryz.prog w 28 cs):∃(x:zN) (ad1:Option Addr) (cap2:Nat) (css3:List (List Value)),cs=[.string x.Site.Name,.int .i64 x.Site.X,.int .i64 x.Site.Y,.int .i64 x.Site.Z,.int .i64 x.Site.Rose,.int .i64 x.Site.Gates,.int .i64 x.Site.Step,.int .i64 x.Site.Width,.int .i64 x.Tilt,.int .i64 x.Time,.slice ad1 x.Rays.length cap2]∧ArrQ (Bs w) 1 Rp30 ad1 cap2 css3 x.Rays∧B76 x:=by
  have hl:=(Reads.len Tryz.underlying28 h).trans (show Tryz.prog.cellsOf 28=11 by kernel_rfl)
  match cs,hl with
  | [c0,c1,c2,c3,c4,c5,c6,c7,c8,c9,a0],_ =>
    obtain ⟨x0,e0,k0⟩:=B78 (Reads.field Tryz.underlying28 h 0 rfl 8 (by kernel_rfl));replace e0:[c0,c1,c2,c3,c4,c5,c6,c7]=_:=e0;simp only [List.cons.injEq,and_true] at e0;obtain ⟨x1,e1,k1⟩:=rd3 (Reads.field Tryz.underlying28 h 1 rfl 1 (by kernel_rfl));replace e1:[c8]=_:=e1;simp only [List.cons.injEq,and_true] at e1;obtain ⟨x2,e2,k2⟩:=rd3 (Reads.field Tryz.underlying28 h 2 rfl 1 (by kernel_rfl));replace e2:[c9]=_:=e2;simp only [List.cons.injEq,and_true] at e2;obtain ⟨x3,ad1_3,cap2_3,css3_3,e3,f3_0,k3⟩:=B79 (Reads.field Tryz.underlying28 h 3 rfl 1 (by kernel_rfl));replace e3:[a0]=_:=e3;simp only [List.cons.injEq,and_true] at e3;obtain ⟨rfl,rfl,rfl,rfl,rfl,rfl,rfl,rfl⟩:=e0;obtain rfl:=e1;obtain rfl:=e2;obtain rfl:=e3;exact ⟨⟨x0,x1,x2,x3⟩,ad1_3,cap2_3,css3_3,rfl,f3_0,k0,k1,k2,k3⟩
end Go.Proofs.YtbhjgebjojdohaaGreat
