import Derived.Test.YtkjnafecmjakcaaGreatDoorS10XD
import Derived.OpenShut
import Derived.ChangeArms
namespace Go.Proofs.YtkjnafecmjakcaaGreatDoor
open Go Go.RowKit Go.Eng
set_option linter.unusedVariables false
theorem A5a {α:Type} {w:World} {sz n cap:Nat} {f:α->List Value} {ad:Option Addr} {l:List α} (h:Arr w sz f ad n cap l):n<=maxLen:=by
  obtain ⟨_,ad2,cap2,he,_,h2,h3,_⟩:=h
  cases he
  exact Nat.le_trans h2 h3
theorem B4f {H:Type} {enc:TypeId×Value->H} {w:World} {cs:List Value} (h:Reads enc Tryz.prog w 9 cs):∃s:ByteArray,cs=[.string s]/\s.size<=maxLen:=by
  obtain ⟨f,d,h⟩:=h;obtain ⟨s,h1,_,h2⟩:=DataW.trod_string Tryz.underlying9 h;exact ⟨s,h1,h2⟩
def ok9 (x:ByteArray):Prop:=x.size<=maxLen
theorem rd9 {H:Type} {enc:TypeId×Value->H} {w:World} {cs:List Value} (h:Reads enc Tryz.prog w 9 cs):∃(x:ByteArray),cs=[.string x]/\ok9 x:=by
  obtain ⟨n,e,k⟩:=B4f h;exact ⟨n,e,k⟩
def ok3 (x:Int):Prop:=-9223372036854775808<=x/\x<=9223372036854775807
theorem rd3 {H:Type} {enc:TypeId×Value->H} {w:World} {cs:List Value} (h:Reads enc Tryz.prog w 3 cs):∃(x:Int),cs=[.int .i64 x]/\ok3 x:=by
  obtain ⟨n,e,k⟩:=Reads.int Tryz.underlying3 h;exact ⟨n,e,bounds_i64 k⟩
inductive ok88:zG->Prop
  | mk_ {x:zG}:ok3 x.Op->ok3 x.Value_->ok3 x.Rays->ok3 x.Gates->(∀y∈x.Args,ok88 y)->ok88 x
theorem B5h {H:Type} {enc:TypeId×Value->H} {w:World} (f:Nat):∀(cs:List Value),ReadsN enc Tryz.prog w f 88 cs->∃(x:zG) (ad1:Option Addr) (cap2:Nat) (css3:List (List Value)),cs=[.int .i64 x.Op,.int .i64 x.Value_,.int .i64 x.Rays,.int .i64 x.Gates,.slice ad1 x.Args.length cap2]/\ArrQ (D9 w) 5 Rp88 ad1 cap2 css3 x.Args/\ok88 x:=by
  induction f using Nat.strongRecOn with
  | _ f ih =>
    intro cs h;obtain ⟨n,hn,hl0,hfs⟩:=ReadsN.fields Tryz.underlying88 h;have hl:=hl0.trans (show Tryz.prog.cellsOf 88=5 by kernel_rfl)
    match cs,hl with
    | [c0,c1,c2,c3,c4],_ =>
      obtain ⟨x0,e0,k0⟩:=rd3 (hfs 0 _ 1 rfl (by kernel_rfl)).reads;replace e0:[c0]=_:=e0;simp only [List.cons.injEq,and_true] at e0;obtain ⟨x1,e1,k1⟩:=rd3 (hfs 1 _ 1 rfl (by kernel_rfl)).reads;replace e1:[c1]=_:=e1;simp only [List.cons.injEq,and_true] at e1;obtain ⟨x2,e2,k2⟩:=rd3 (hfs 2 _ 1 rfl (by kernel_rfl)).reads;replace e2:[c2]=_:=e2;simp only [List.cons.injEq,and_true] at e2;obtain ⟨x3,e3,k3⟩:=rd3 (hfs 3 _ 1 rfl (by kernel_rfl)).reads;replace e3:[c3]=_:=e3;simp only [List.cons.injEq,and_true] at e3;obtain ⟨ad,cap,css,x4,e4,f4,k4⟩:=ReadsN.sliceQ (R:=Rp88) (ok:=ok88) (sz:=5) Tryz.underlying86 (by kernel_rfl) (by decide) (λm hm c hc hr=>by
        obtain ⟨x,ad,cap,css,e,f0,k⟩:=ih m (by omega) c hr;exact ⟨x,Rp88.in_ ⟨ad,cap,css,e,f0⟩,k⟩) (hfs 4 _ 1 rfl (by kernel_rfl))
      replace e4:[c4]=_:=e4;simp only [List.cons.injEq,and_true] at e4;obtain rfl:=e0;obtain rfl:=e1;obtain rfl:=e2;obtain rfl:=e3;obtain rfl:=e4;exact ⟨⟨x0,x1,x2,x3,x4⟩,ad,cap,css,rfl,f4,.mk_ k0 k1 k2 k3 k4⟩
theorem B67 {H:Type} {enc:TypeId×Value->H} {w:World} {cs:List Value} (h:Reads enc Tryz.prog w 88 cs):∃(x:zG) (ad1:Option Addr) (cap2:Nat) (css3:List (List Value)),cs=[.int .i64 x.Op,.int .i64 x.Value_,.int .i64 x.Rays,.int .i64 x.Gates,.slice ad1 x.Args.length cap2]/\ArrQ (D9 w) 5 Rp88 ad1 cap2 css3 x.Args/\ok88 x:=by
  obtain ⟨f,h⟩:=h.ex;exact B5h f cs h
def A9w (x:zN):Prop:=ok9 x.Name/\ok88 x.When
theorem B5g {H:Type} {enc:TypeId×Value->H} {w:World} {cs:List Value} (h:Reads enc Tryz.prog w 101 cs):∃(x:zN) (ad1:Option Addr) (cap2:Nat) (css3:List (List Value)),cs=[.string x.Name,.int .i64 x.When.Op,.int .i64 x.When.Value_,.int .i64 x.When.Rays,.int .i64 x.When.Gates,.slice ad1 x.When.Args.length cap2]/\ArrQ (D9 w) 5 Rp88 ad1 cap2 css3 x.When.Args/\A9w x:=by
  have hl:=(Reads.len Tryz.underlying101 h).trans (show Tryz.prog.cellsOf 101=6 by kernel_rfl)
  match cs,hl with
  | [c0,c1,c2,c3,c4,c5],_ =>
    obtain ⟨x0,e0,k0⟩:=rd9 (Reads.field Tryz.underlying101 h 0 rfl 1 (by kernel_rfl));replace e0:[c0]=_:=e0;simp only [List.cons.injEq,and_true] at e0;obtain ⟨x1,ad1_1,cap2_1,css3_1,e1,f1_0,k1⟩:=B67 (Reads.field Tryz.underlying101 h 1 rfl 5 (by kernel_rfl));replace e1:[c1,c2,c3,c4,c5]=_:=e1;simp only [List.cons.injEq,and_true] at e1;obtain rfl:=e0;obtain ⟨rfl,rfl,rfl,rfl,rfl⟩:=e1;exact ⟨⟨x0,x1⟩,ad1_1,cap2_1,css3_1,rfl,f1_0,k0,k1⟩
def B5u (l:(List zN)):Prop:=l.length<=maxLen/\∀y∈l,A9w y
theorem B5w {H:Type} {enc:TypeId×Value->H} {w:World} {cs:List Value} (h:Reads enc Tryz.prog w 22 cs):∃(x:(List zN)) (ad1:Option Addr) (cap2:Nat) (css3:List (List Value)),cs=[.slice ad1 x.length cap2]/\ArrQ (D9 w) 6 Rp101 ad1 cap2 css3 x/\B5u x:=by
  obtain ⟨ad,cap,css,l,e,hA,k⟩:=Reads.sliceQ (R:=Rp101) (ok:=A9w) (sz:=6) Tryz.underlying22 (by kernel_rfl) (by decide) (λc _ hr=>by
    obtain ⟨x,ad1,cap2,css3,e,f0,k⟩:=B5g hr;exact ⟨x,⟨ad1,cap2,css3,e,f0⟩,k⟩) h
  exact ⟨l,ad,cap,css,e,hA,⟨hA.2.len▸A5a (hA.1 w (Ax w)),k⟩⟩
def B5b (x:zP):Prop:=ok9 x.Name/\ok3 x.X/\ok3 x.Y/\ok3 x.Z/\ok3 x.Rose/\ok3 x.Gates/\ok3 x.Step/\ok3 x.Width
theorem B5x {H:Type} {enc:TypeId×Value->H} {w:World} {cs:List Value} (h:Reads enc Tryz.prog w 47 cs):∃(x:zP),cs=[.string x.Name,.int .i64 x.X,.int .i64 x.Y,.int .i64 x.Z,.int .i64 x.Rose,.int .i64 x.Gates,.int .i64 x.Step,.int .i64 x.Width]/\B5b x:=by
  have hl:=(Reads.len Tryz.underlying47 h).trans (show Tryz.prog.cellsOf 47=8 by kernel_rfl)
  match cs,hl with
  | [c0,c1,c2,c3,c4,c5,c6,c7],_ =>
    obtain ⟨x0,e0,k0⟩:=rd9 (Reads.field Tryz.underlying47 h 0 rfl 1 (by kernel_rfl));replace e0:[c0]=_:=e0;simp only [List.cons.injEq,and_true] at e0;obtain ⟨x1,e1,k1⟩:=rd3 (Reads.field Tryz.underlying47 h 1 rfl 1 (by kernel_rfl));replace e1:[c1]=_:=e1;simp only [List.cons.injEq,and_true] at e1;obtain ⟨x2,e2,k2⟩:=rd3 (Reads.field Tryz.underlying47 h 2 rfl 1 (by kernel_rfl));replace e2:[c2]=_:=e2;simp only [List.cons.injEq,and_true] at e2;obtain ⟨x3,e3,k3⟩:=rd3 (Reads.field Tryz.underlying47 h 3 rfl 1 (by kernel_rfl));replace e3:[c3]=_:=e3;simp only [List.cons.injEq,and_true] at e3;obtain ⟨x4,e4,k4⟩:=rd3 (Reads.field Tryz.underlying47 h 4 rfl 1 (by kernel_rfl));replace e4:[c4]=_:=e4;simp only [List.cons.injEq,and_true] at e4;obtain ⟨x5,e5,k5⟩:=rd3 (Reads.field Tryz.underlying47 h 5 rfl 1 (by kernel_rfl));replace e5:[c5]=_:=e5;simp only [List.cons.injEq,and_true] at e5;obtain ⟨x6,e6,k6⟩:=rd3 (Reads.field Tryz.underlying47 h 6 rfl 1 (by kernel_rfl));replace e6:[c6]=_:=e6;simp only [List.cons.injEq,and_true] at e6;obtain ⟨x7,e7,k7⟩:=rd3 (Reads.field Tryz.underlying47 h 7 rfl 1 (by kernel_rfl));replace e7:[c7]=_:=e7;simp only [List.cons.injEq,and_true] at e7;obtain rfl:=e0;obtain rfl:=e1;obtain rfl:=e2;obtain rfl:=e3;obtain rfl:=e4;obtain rfl:=e5;obtain rfl:=e6;obtain rfl:=e7;exact ⟨⟨x0,x1,x2,x3,x4,x5,x6,x7⟩,rfl,k0,k1,k2,k3,k4,k5,k6,k7⟩
def A5y (x:zC):Prop:=ok3 x.Lo/\ok3 x.Hi
theorem A82 {H:Type} {enc:TypeId×Value->H} {w:World} {cs:List Value} (h:Reads enc Tryz.prog w 80 cs):∃(x:zC),cs=[.int .i64 x.Lo,.int .i64 x.Hi]/\A5y x:=by
  have hl:=(Reads.len Tryz.underlying80 h).trans (show Tryz.prog.cellsOf 80=2 by kernel_rfl)
  match cs,hl with
  | [c0,c1],_ =>
    obtain ⟨x0,e0,k0⟩:=rd3 (Reads.field Tryz.underlying80 h 0 rfl 1 (by kernel_rfl));replace e0:[c0]=_:=e0;simp only [List.cons.injEq,and_true] at e0;obtain ⟨x1,e1,k1⟩:=rd3 (Reads.field Tryz.underlying80 h 1 rfl 1 (by kernel_rfl));replace e1:[c1]=_:=e1;simp only [List.cons.injEq,and_true] at e1;obtain rfl:=e0;obtain rfl:=e1;exact ⟨⟨x0,x1⟩,rfl,k0,k1⟩
def B5d (x:(zC×zC)):Prop:=A5y x.1/\A5y x.2
theorem B61 {H:Type} {enc:TypeId×Value->H} {w:World} {cs:List Value} (h:Reads enc Tryz.prog w 81 cs):∃(x:(zC×zC)),cs=[.int .i64 x.1.Lo,.int .i64 x.1.Hi,.int .i64 x.2.Lo,.int .i64 x.2.Hi]/\B5d x:=by
  have hl:=(Reads.arrLen Tryz.underlying81 h).trans (show Tryz.prog.cellsOf 81=4 by kernel_rfl)
  match cs,hl with
  | [c0,c1,c2,c3],_ =>
    obtain ⟨x0,e0,k0⟩:=A82 (Reads.part Tryz.underlying81 h 0 (by decide) 2 (by kernel_rfl));replace e0:[c0,c1]=_:=e0;simp only [List.cons.injEq,and_true] at e0;obtain ⟨x1,e1,k1⟩:=A82 (Reads.part Tryz.underlying81 h 1 (by decide) 2 (by kernel_rfl));replace e1:[c2,c3]=_:=e1;simp only [List.cons.injEq,and_true] at e1;obtain ⟨rfl,rfl⟩:=e0;obtain ⟨rfl,rfl⟩:=e1;exact ⟨⟨x0,x1⟩,rfl,k0,k1⟩
def B4a (x:zD):Prop:=ok3 x.Kind/\A5y x.Power/\B5d x.Steps/\ok3 x.Spread/\A5y x.Ratio/\A5y x.Match/\A5y x.Turn
theorem B66 {H:Type} {enc:TypeId×Value->H} {w:World} {cs:List Value} (h:Reads enc Tryz.prog w 83 cs):∃(x:zD),cs=[.int .i64 x.Kind,.int .i64 x.Power.Lo,.int .i64 x.Power.Hi,.int .i64 x.Steps.1.Lo,.int .i64 x.Steps.1.Hi,.int .i64 x.Steps.2.Lo,.int .i64 x.Steps.2.Hi,.int .i64 x.Spread,.int .i64 x.Ratio.Lo,.int .i64 x.Ratio.Hi,.int .i64 x.Match.Lo,.int .i64 x.Match.Hi,.int .i64 x.Turn.Lo,.int .i64 x.Turn.Hi]/\B4a x:=by
  have hl:=(Reads.len Tryz.underlying83 h).trans (show Tryz.prog.cellsOf 83=14 by kernel_rfl)
  match cs,hl with
  | [c0,c1,c2,c3,c4,c5,c6,c7,c8,c9,a0,a1,a2,a3],_ =>
    obtain ⟨x0,e0,k0⟩:=rd3 (Reads.field Tryz.underlying83 h 0 rfl 1 (by kernel_rfl));replace e0:[c0]=_:=e0;simp only [List.cons.injEq,and_true] at e0;obtain ⟨x1,e1,k1⟩:=A82 (Reads.field Tryz.underlying83 h 1 rfl 2 (by kernel_rfl));replace e1:[c1,c2]=_:=e1;simp only [List.cons.injEq,and_true] at e1;obtain ⟨x2,e2,k2⟩:=B61 (Reads.field Tryz.underlying83 h 2 rfl 4 (by kernel_rfl));replace e2:[c3,c4,c5,c6]=_:=e2;simp only [List.cons.injEq,and_true] at e2;obtain ⟨x3,e3,k3⟩:=rd3 (Reads.field Tryz.underlying83 h 3 rfl 1 (by kernel_rfl));replace e3:[c7]=_:=e3;simp only [List.cons.injEq,and_true] at e3;obtain ⟨x4,e4,k4⟩:=A82 (Reads.field Tryz.underlying83 h 4 rfl 2 (by kernel_rfl));replace e4:[c8,c9]=_:=e4;simp only [List.cons.injEq,and_true] at e4;obtain ⟨x5,e5,k5⟩:=A82 (Reads.field Tryz.underlying83 h 5 rfl 2 (by kernel_rfl));replace e5:[a0,a1]=_:=e5;simp only [List.cons.injEq,and_true] at e5;obtain ⟨x6,e6,k6⟩:=A82 (Reads.field Tryz.underlying83 h 6 rfl 2 (by kernel_rfl));replace e6:[a2,a3]=_:=e6;simp only [List.cons.injEq,and_true] at e6;obtain rfl:=e0;obtain ⟨rfl,rfl⟩:=e1;obtain ⟨rfl,rfl,rfl,rfl⟩:=e2;obtain rfl:=e3;obtain ⟨rfl,rfl⟩:=e4;obtain ⟨rfl,rfl⟩:=e5;obtain ⟨rfl,rfl⟩:=e6;exact ⟨⟨x0,x1,x2,x3,x4,x5,x6⟩,rfl,k0,k1,k2,k3,k4,k5,k6⟩
def B48 (l:(List zD)):Prop:=l.length<=maxLen/\∀y∈l,B4a y
theorem B60 {H:Type} {enc:TypeId×Value->H} {w:World} {cs:List Value} (h:Reads enc Tryz.prog w 78 cs):∃(x:(List zD)) (ad1:Option Addr) (cap2:Nat),cs=[.slice ad1 x.length cap2]/\ArrM (D9 w) 14 zD.cells ad1 cap2 x/\B48 x:=by
  obtain ⟨ad,cap,l,e,hA,k⟩:=Reads.slice (f:=zD.cells) (ok:=B4a) (sz:=14) Tryz.underlying78 (by kernel_rfl) (by decide) (λc _ hr=>B66 hr) zD.cells_len h;exact ⟨l,ad,cap,e,hA,⟨A5a (hA w (Ax w)),k⟩⟩
def B5c (l:(List (List zD))):Prop:=l.length<=maxLen/\∀y∈l,B48 y
theorem B5y {H:Type} {enc:TypeId×Value->H} {w:World} {cs:List Value} (h:Reads enc Tryz.prog w 48 cs):∃(x:(List (List zD))) (ad1:Option Addr) (cap2:Nat) (css3:List (List Value)),cs=[.slice ad1 x.length cap2]/\ArrQ (D9 w) 1 Rp78 ad1 cap2 css3 x/\B5c x:=by
  obtain ⟨ad,cap,css,l,e,hA,k⟩:=Reads.sliceQ (R:=Rp78) (ok:=B48) (sz:=1) Tryz.underlying48 (by kernel_rfl) (by decide) (λc _ hr=>by
    obtain ⟨x,ad1,cap2,e,f0,k⟩:=B60 hr;exact ⟨x,⟨ad1,cap2,e,f0⟩,k⟩) h
  exact ⟨l,ad,cap,css,e,hA,⟨hA.2.len▸A5a (hA.1 w (Ax w)),k⟩⟩
def B5v (x:zF):Prop:=B5b x.Site/\ok3 x.Tilt/\ok3 x.Time/\B5c x.Rays
theorem B5z {H:Type} {enc:TypeId×Value->H} {w:World} {cs:List Value} (h:Reads enc Tryz.prog w 50 cs):∃(x:zF) (ad1:Option Addr) (cap2:Nat) (css3:List (List Value)),cs=[.string x.Site.Name,.int .i64 x.Site.X,.int .i64 x.Site.Y,.int .i64 x.Site.Z,.int .i64 x.Site.Rose,.int .i64 x.Site.Gates,.int .i64 x.Site.Step,.int .i64 x.Site.Width,.int .i64 x.Tilt,.int .i64 x.Time,.slice ad1 x.Rays.length cap2]/\ArrQ (D9 w) 1 Rp78 ad1 cap2 css3 x.Rays/\B5v x:=by
  have hl:=(Reads.len Tryz.underlying50 h).trans (show Tryz.prog.cellsOf 50=11 by kernel_rfl)
  match cs,hl with
  | [c0,c1,c2,c3,c4,c5,c6,c7,c8,c9,a0],_ =>
    obtain ⟨x0,e0,k0⟩:=B5x (Reads.field Tryz.underlying50 h 0 rfl 8 (by kernel_rfl));replace e0:[c0,c1,c2,c3,c4,c5,c6,c7]=_:=e0;simp only [List.cons.injEq,and_true] at e0;obtain ⟨x1,e1,k1⟩:=rd3 (Reads.field Tryz.underlying50 h 1 rfl 1 (by kernel_rfl));replace e1:[c8]=_:=e1;simp only [List.cons.injEq,and_true] at e1;obtain ⟨x2,e2,k2⟩:=rd3 (Reads.field Tryz.underlying50 h 2 rfl 1 (by kernel_rfl));replace e2:[c9]=_:=e2;simp only [List.cons.injEq,and_true] at e2;obtain ⟨x3,ad1_3,cap2_3,css3_3,e3,f3_0,k3⟩:=B5y (Reads.field Tryz.underlying50 h 3 rfl 1 (by kernel_rfl));replace e3:[a0]=_:=e3;simp only [List.cons.injEq,and_true] at e3;obtain ⟨rfl,rfl,rfl,rfl,rfl,rfl,rfl,rfl⟩:=e0;obtain rfl:=e1;obtain rfl:=e2;obtain rfl:=e3;exact ⟨⟨x0,x1,x2,x3⟩,ad1_3,cap2_3,css3_3,rfl,f3_0,k0,k1,k2,k3⟩
end Go.Proofs.YtkjnafecmjakcaaGreatDoor
