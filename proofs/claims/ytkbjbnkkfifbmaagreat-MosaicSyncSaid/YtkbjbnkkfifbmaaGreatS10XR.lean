import Derived.Test.YtkbjbnkkfifbmaaGreatS10XD
import Derived.Test.YtkbjbnkkfifbmaaGreatProg
import Derived.OpenShut
import Derived.ChangeArms
namespace Go.Proofs.YtkbjbnkkfifbmaaGreat
open Go Go.RowKit Go.Eng
set_option linter.unusedVariables false
def ok5 (x:Int):Prop:=0≤x∧x≤255
theorem rd5 {H:Type} {enc:TypeId×Value→H} {w:World} {cs:List Value} (h:Reads enc Tryz.prog w 5 cs):∃(x:Int),cs=[.int .u8 x]∧ok5 x:=by
  obtain ⟨n,e,k⟩:=Reads.int Tryz.underlying5 h;exact ⟨n,e,bounds_u8 k⟩
def A4u (x:Int):Prop:=-32768≤x∧x≤32767
theorem A69 {H:Type} {enc:TypeId×Value→H} {w:World} {cs:List Value} (h:Reads enc Tryz.prog w 22 cs):∃(x:Int),cs=[.int .i16 x]∧A4u x:=by
  obtain ⟨n,e,k⟩:=Reads.int Tryz.underlying22 h;exact ⟨n,e,bounds_i16 k⟩
def W9 (x:Int):Prop:=0≤x∧x≤65535
theorem Xj {H:Type} {enc:TypeId×Value→H} {w:World} {cs:List Value} (h:Reads enc Tryz.prog w 23 cs):∃(x:Int),cs=[.int .u16 x]∧W9 x:=by
  obtain ⟨n,e,k⟩:=Reads.int Tryz.underlying23 h;exact ⟨n,e,bounds_u16 k⟩
def A2o (x:law11_Station):Prop:=A4u x.X∧A4u x.Y∧W9 x.Z∧ok5 x.Rose∧ok5 x.Gates∧ok5 x.Width∧W9 x.Lo∧W9 x.Hi
theorem A51 {H:Type} {enc:TypeId×Value→H} {w:World} {cs:List Value} (h:Reads enc Tryz.prog w 25 cs):∃(x:law11_Station),cs=[.int .i16 x.X,.int .i16 x.Y,.int .u16 x.Z,.int .u8 x.Rose,.int .u8 x.Gates,.int .u8 x.Width,.int .u16 x.Lo,.int .u16 x.Hi]∧A2o x:=by
  have hl:=(Reads.len Tryz.underlying25 h).trans (show Tryz.prog.cellsOf 25=8 by kernel_rfl)
  match cs,hl with
  | [c0,c1,c2,c3,c4,c5,c6,c7],_ =>
    obtain ⟨x0,e0,k0⟩:=A69 (Reads.field Tryz.underlying25 h 0 rfl 1 (by kernel_rfl));replace e0:[c0]=_:=e0;simp only [List.cons.injEq,and_true] at e0;obtain ⟨x1,e1,k1⟩:=A69 (Reads.field Tryz.underlying25 h 1 rfl 1 (by kernel_rfl));replace e1:[c1]=_:=e1;simp only [List.cons.injEq,and_true] at e1;obtain ⟨x2,e2,k2⟩:=Xj (Reads.field Tryz.underlying25 h 2 rfl 1 (by kernel_rfl));replace e2:[c2]=_:=e2;simp only [List.cons.injEq,and_true] at e2;obtain ⟨x3,e3,k3⟩:=rd5 (Reads.field Tryz.underlying25 h 3 rfl 1 (by kernel_rfl));replace e3:[c3]=_:=e3;simp only [List.cons.injEq,and_true] at e3;obtain ⟨x4,e4,k4⟩:=rd5 (Reads.field Tryz.underlying25 h 4 rfl 1 (by kernel_rfl));replace e4:[c4]=_:=e4;simp only [List.cons.injEq,and_true] at e4;obtain ⟨x5,e5,k5⟩:=rd5 (Reads.field Tryz.underlying25 h 5 rfl 1 (by kernel_rfl));replace e5:[c5]=_:=e5;simp only [List.cons.injEq,and_true] at e5;obtain ⟨x6,e6,k6⟩:=Xj (Reads.field Tryz.underlying25 h 6 rfl 1 (by kernel_rfl));replace e6:[c6]=_:=e6;simp only [List.cons.injEq,and_true] at e6;obtain ⟨x7,e7,k7⟩:=Xj (Reads.field Tryz.underlying25 h 7 rfl 1 (by kernel_rfl));replace e7:[c7]=_:=e7;simp only [List.cons.injEq,and_true] at e7;obtain rfl:=e0;obtain rfl:=e1;obtain rfl:=e2;obtain rfl:=e3;obtain rfl:=e4;obtain rfl:=e5;obtain rfl:=e6;obtain rfl:=e7;exact ⟨⟨x0,x1,x2,x3,x4,x5,x6,x7⟩,rfl,k0,k1,k2,k3,k4,k5,k6,k7⟩
def A65 (x:(law11_Station×law11_Station×law11_Station)):Prop:=A2o x.1∧A2o x.2.1∧A2o x.2.2
theorem A70 {H:Type} {enc:TypeId×Value→H} {w:World} {cs:List Value} (h:Reads enc Tryz.prog w 26 cs):∃(x:(law11_Station×law11_Station×law11_Station)),cs=[.int .i16 x.1.X,.int .i16 x.1.Y,.int .u16 x.1.Z,.int .u8 x.1.Rose,.int .u8 x.1.Gates,.int .u8 x.1.Width,.int .u16 x.1.Lo,.int .u16 x.1.Hi,.int .i16 x.2.1.X,.int .i16 x.2.1.Y,.int .u16 x.2.1.Z,.int .u8 x.2.1.Rose,.int .u8 x.2.1.Gates,.int .u8 x.2.1.Width,.int .u16 x.2.1.Lo,.int .u16 x.2.1.Hi,.int .i16 x.2.2.X,.int .i16 x.2.2.Y,.int .u16 x.2.2.Z,.int .u8 x.2.2.Rose,.int .u8 x.2.2.Gates,.int .u8 x.2.2.Width,.int .u16 x.2.2.Lo,.int .u16 x.2.2.Hi]∧A65 x:=by
  have hl:=(Reads.arrLen Tryz.underlying26 h).trans (show Tryz.prog.cellsOf 26=24 by kernel_rfl)
  match cs,hl with
  | [c0,c1,c2,c3,c4,c5,c6,c7,c8,c9,a0,a1,a2,a3,a4,a5,a6,a7,a8,a9,aA,aB,aC,aD],_ =>
    obtain ⟨x0,e0,k0⟩:=A51 (Reads.part Tryz.underlying26 h 0 (by decide) 8 (by kernel_rfl));replace e0:[c0,c1,c2,c3,c4,c5,c6,c7]=_:=e0;simp only [List.cons.injEq,and_true] at e0;obtain ⟨x1,e1,k1⟩:=A51 (Reads.part Tryz.underlying26 h 1 (by decide) 8 (by kernel_rfl));replace e1:[c8,c9,a0,a1,a2,a3,a4,a5]=_:=e1;simp only [List.cons.injEq,and_true] at e1;obtain ⟨x2,e2,k2⟩:=A51 (Reads.part Tryz.underlying26 h 2 (by decide) 8 (by kernel_rfl));replace e2:[a6,a7,a8,a9,aA,aB,aC,aD]=_:=e2;simp only [List.cons.injEq,and_true] at e2;obtain ⟨rfl,rfl,rfl,rfl,rfl,rfl,rfl,rfl⟩:=e0;obtain ⟨rfl,rfl,rfl,rfl,rfl,rfl,rfl,rfl⟩:=e1;obtain ⟨rfl,rfl,rfl,rfl,rfl,rfl,rfl,rfl⟩:=e2;exact ⟨⟨x0,x1,x2⟩,rfl,k0,k1,k2⟩
def A6w (x:law11_Net):Prop:=ok5 x.Wide∧ok5 x.High∧A65 x.Stations∧ok5 x.Count∧W9 x.Age
theorem A71 {H:Type} {enc:TypeId×Value→H} {w:World} {cs:List Value} (h:Reads enc Tryz.prog w 28 cs):∃(x:law11_Net),cs=[.int .u8 x.Wide,.int .u8 x.High,.int .i16 x.Stations.1.X,.int .i16 x.Stations.1.Y,.int .u16 x.Stations.1.Z,.int .u8 x.Stations.1.Rose,.int .u8 x.Stations.1.Gates,.int .u8 x.Stations.1.Width,.int .u16 x.Stations.1.Lo,.int .u16 x.Stations.1.Hi,.int .i16 x.Stations.2.1.X,.int .i16 x.Stations.2.1.Y,.int .u16 x.Stations.2.1.Z,.int .u8 x.Stations.2.1.Rose,.int .u8 x.Stations.2.1.Gates,.int .u8 x.Stations.2.1.Width,.int .u16 x.Stations.2.1.Lo,.int .u16 x.Stations.2.1.Hi,.int .i16 x.Stations.2.2.X,.int .i16 x.Stations.2.2.Y,.int .u16 x.Stations.2.2.Z,.int .u8 x.Stations.2.2.Rose,.int .u8 x.Stations.2.2.Gates,.int .u8 x.Stations.2.2.Width,.int .u16 x.Stations.2.2.Lo,.int .u16 x.Stations.2.2.Hi,.int .u8 x.Count,.int .u16 x.Age]∧A6w x:=by
  have hl:=(Reads.len Tryz.underlying28 h).trans (show Tryz.prog.cellsOf 28=28 by kernel_rfl)
  match cs,hl with
  | [c0,c1,c2,c3,c4,c5,c6,c7,c8,c9,a0,a1,a2,a3,a4,a5,a6,a7,a8,a9,aA,aB,aC,aD,aE,aF,aG,aH],_ =>
    obtain ⟨x0,e0,k0⟩:=rd5 (Reads.field Tryz.underlying28 h 0 rfl 1 (by kernel_rfl));replace e0:[c0]=_:=e0;simp only [List.cons.injEq,and_true] at e0;obtain ⟨x1,e1,k1⟩:=rd5 (Reads.field Tryz.underlying28 h 1 rfl 1 (by kernel_rfl));replace e1:[c1]=_:=e1;simp only [List.cons.injEq,and_true] at e1;obtain ⟨x2,e2,k2⟩:=A70 (Reads.field Tryz.underlying28 h 2 rfl 24 (by kernel_rfl));replace e2:[c2,c3,c4,c5,c6,c7,c8,c9,a0,a1,a2,a3,a4,a5,a6,a7,a8,a9,aA,aB,aC,aD,aE,aF]=_:=e2;simp only [List.cons.injEq,and_true] at e2;obtain ⟨x3,e3,k3⟩:=rd5 (Reads.field Tryz.underlying28 h 3 rfl 1 (by kernel_rfl));replace e3:[aG]=_:=e3;simp only [List.cons.injEq,and_true] at e3;obtain ⟨x4,e4,k4⟩:=Xj (Reads.field Tryz.underlying28 h 4 rfl 1 (by kernel_rfl));replace e4:[aH]=_:=e4;simp only [List.cons.injEq,and_true] at e4;obtain rfl:=e0;obtain rfl:=e1;obtain ⟨rfl,rfl,rfl,rfl,rfl,rfl,rfl,rfl,rfl,rfl,rfl,rfl,rfl,rfl,rfl,rfl,rfl,rfl,rfl,rfl,rfl,rfl,rfl,rfl⟩:=e2;obtain rfl:=e3;obtain rfl:=e4;exact ⟨⟨x0,x1,x2,x3,x4⟩,rfl,k0,k1,k2,k3,k4⟩
def A66 (l:(List Int)):Prop:=∀y∈l,W9 y
theorem A6a {H:Type} {enc:TypeId×Value→H} {w:World} {cs:List Value} (h:Reads enc Tryz.prog w 50 cs):∃(x:(List Int)) (ad1:Option Addr) (cap2:Nat),cs=[.slice ad1 x.length cap2]∧ArrM (Eh w) 1 (fK .u16) ad1 cap2 x∧A66 x:=by
  obtain ⟨ad,cap,l,e,hA,k⟩:=Reads.slice (f:=(fK .u16)) (ok:=W9) (sz:=1) Tryz.underlying50 (by kernel_rfl) (by decide) (fun c _ hr=>Xj hr) (Ga .u16) h;exact ⟨l,ad,cap,e,hA,k⟩
def A4v (x:law11_Post):Prop:=ok5 x.Radar∧ok5 x.Tilt∧W9 x.Time∧A66 x.Vals∧ok5 x.Wide
theorem A73 {H:Type} {enc:TypeId×Value→H} {w:World} {cs:List Value} (h:Reads enc Tryz.prog w 52 cs):∃(x:law11_Post) (ad1:Option Addr) (cap2:Nat),cs=[.int .u8 x.Radar,.int .u8 x.Tilt,.int .u16 x.Time,.slice ad1 x.Vals.length cap2,.int .u8 x.Wide]∧ArrM (Eh w) 1 (fK .u16) ad1 cap2 x.Vals∧A4v x:=by
  have hl:=(Reads.len Tryz.underlying52 h).trans (show Tryz.prog.cellsOf 52=5 by kernel_rfl)
  match cs,hl with
  | [c0,c1,c2,c3,c4],_ =>
    obtain ⟨x0,e0,k0⟩:=rd5 (Reads.field Tryz.underlying52 h 0 rfl 1 (by kernel_rfl));replace e0:[c0]=_:=e0;simp only [List.cons.injEq,and_true] at e0;obtain ⟨x1,e1,k1⟩:=rd5 (Reads.field Tryz.underlying52 h 1 rfl 1 (by kernel_rfl));replace e1:[c1]=_:=e1;simp only [List.cons.injEq,and_true] at e1;obtain ⟨x2,e2,k2⟩:=Xj (Reads.field Tryz.underlying52 h 2 rfl 1 (by kernel_rfl));replace e2:[c2]=_:=e2;simp only [List.cons.injEq,and_true] at e2;obtain ⟨x3,ad1_3,cap2_3,e3,f3_0,k3⟩:=A6a (Reads.field Tryz.underlying52 h 3 rfl 1 (by kernel_rfl));replace e3:[c3]=_:=e3;simp only [List.cons.injEq,and_true] at e3;obtain ⟨x4,e4,k4⟩:=rd5 (Reads.field Tryz.underlying52 h 4 rfl 1 (by kernel_rfl));replace e4:[c4]=_:=e4;simp only [List.cons.injEq,and_true] at e4;obtain rfl:=e0;obtain rfl:=e1;obtain rfl:=e2;obtain rfl:=e3;obtain rfl:=e4;exact ⟨⟨x0,x1,x2,x3,x4⟩,ad1_3,cap2_3,rfl,f3_0,k0,k1,k2,k3,k4⟩
def A6x (l:(List law11_Post)):Prop:=∀y∈l,A4v y
theorem A72 {H:Type} {enc:TypeId×Value→H} {w:World} {cs:List Value} (h:Reads enc Tryz.prog w 29 cs):∃(x:(List law11_Post)) (ad1:Option Addr) (cap2:Nat) (css3:List (List Value)),cs=[.slice ad1 x.length cap2]∧ArrQ (Eh w) 5 Rp52 ad1 cap2 css3 x∧A6x x:=by
  obtain ⟨ad,cap,css,l,e,hA,k⟩:=Reads.sliceQ (R:=Rp52) (ok:=A4v) (sz:=5) Tryz.underlying29 (by kernel_rfl) (by decide) (fun c _ hr=>by
    obtain ⟨x,ad1,cap2,e,f0,k⟩:=A73 hr;exact ⟨x,⟨ad1,cap2,e,f0⟩,k⟩) h
  exact ⟨l,ad,cap,css,e,hA,k⟩
def A6y (l:(List Int)):Prop:=∀y∈l,ok5 y
theorem A74 {H:Type} {enc:TypeId×Value→H} {w:World} {cs:List Value} (h:Reads enc Tryz.prog w 80 cs):∃(x:(List Int)) (ad1:Option Addr) (cap2:Nat),cs=[.slice ad1 x.length cap2]∧ArrM (Eh w) 1 (fK .u8) ad1 cap2 x∧A6y x:=by
  obtain ⟨ad,cap,l,e,hA,k⟩:=Reads.slice (f:=(fK .u8)) (ok:=ok5) (sz:=1) Tryz.underlying80 (by kernel_rfl) (by decide) (fun c _ hr=>rd5 hr) (Ga .u8) h;exact ⟨l,ad,cap,e,hA,k⟩
end Go.Proofs.YtkbjbnkkfifbmaaGreat
