import Derived.Test.YtkjnafecmjakcaaGreatDoorS3XD
import Derived.Test.YtkjnafecmjakcaaGreatDoorProg
import Derived.OpenShut
import Derived.ChangeArms
namespace Go.Proofs.YtkjnafecmjakcaaGreatDoor
open Go Go.RowKit Go.Eng
set_option linter.unusedVariables false
theorem A6h {H:Type} {enc:TypeId×Value→H} {w:World} {cs:List Value} (h:Reads enc Tryz.prog w 9 cs):∃s:ByteArray,cs=[.string s]∧s.size≤maxLen:=by
  obtain ⟨f,d,h⟩:=h;obtain ⟨s,h1,_,h2⟩:=DataW.trod_string Tryz.underlying9 h;exact ⟨s,h1,h2⟩
def ok9 (x:ByteArray):Prop:=x.size≤maxLen
theorem rd9 {H:Type} {enc:TypeId×Value→H} {w:World} {cs:List Value} (h:Reads enc Tryz.prog w 9 cs):∃(x:ByteArray),cs=[.string x]∧ok9 x:=by
  obtain ⟨n,e,k⟩:=A6h h;exact ⟨n,e,k⟩
def ok3 (x:Int):Prop:=-9223372036854775808≤x∧x≤9223372036854775807
theorem rd3 {H:Type} {enc:TypeId×Value→H} {w:World} {cs:List Value} (h:Reads enc Tryz.prog w 3 cs):∃(x:Int),cs=[.int .i64 x]∧ok3 x:=by
  obtain ⟨n,e,k⟩:=Reads.int Tryz.underlying3 h;exact ⟨n,e,bounds_i64 k⟩
inductive ok88:ref04_Node→Prop
  | mk_ {x:ref04_Node}:ok3 x.Op→ok3 x.Value_→ok3 x.Rays→ok3 x.Gates→(∀y∈x.Args,ok88 y)→ok88 x
theorem A7h {H:Type} {enc:TypeId×Value→H} {w:World} (f:Nat):∀(cs:List Value),ReadsN enc Tryz.prog w f 88 cs→∃(x:ref04_Node) (ad1:Option Addr) (cap2:Nat) (css3:List (List Value)),cs=[.int .i64 x.Op,.int .i64 x.Value_,.int .i64 x.Rays,.int .i64 x.Gates,.slice ad1 x.Args.length cap2]∧ArrQ (Cv w) 5 Rp88 ad1 cap2 css3 x.Args∧ok88 x:=by
  induction f using Nat.strongRecOn with
  | _ f ih =>
    intro cs h;obtain ⟨n,hn,hl0,hfs⟩:=ReadsN.fields Tryz.underlying88 h;have hl:=hl0.trans (show Tryz.prog.cellsOf 88=5 by kernel_rfl)
    match cs,hl with
    | [c0,c1,c2,c3,c4],_ =>
      obtain ⟨x0,e0,k0⟩:=rd3 (hfs 0 _ 1 rfl (by kernel_rfl)).reads;replace e0:[c0]=_:=e0;simp only [List.cons.injEq,and_true] at e0;obtain ⟨x1,e1,k1⟩:=rd3 (hfs 1 _ 1 rfl (by kernel_rfl)).reads;replace e1:[c1]=_:=e1;simp only [List.cons.injEq,and_true] at e1;obtain ⟨x2,e2,k2⟩:=rd3 (hfs 2 _ 1 rfl (by kernel_rfl)).reads;replace e2:[c2]=_:=e2;simp only [List.cons.injEq,and_true] at e2;obtain ⟨x3,e3,k3⟩:=rd3 (hfs 3 _ 1 rfl (by kernel_rfl)).reads;replace e3:[c3]=_:=e3;simp only [List.cons.injEq,and_true] at e3;obtain ⟨ad,cap,css,x4,e4,f4,k4⟩:=ReadsN.sliceQ (R:=Rp88) (ok:=ok88) (sz:=5) Tryz.underlying86 (by kernel_rfl) (by decide) (fun m hm c hc hr=>by
        obtain ⟨x,ad,cap,css,e,f0,k⟩:=ih m (by omega) c hr;exact ⟨x,Rp88.in_ ⟨ad,cap,css,e,f0⟩,k⟩) (hfs 4 _ 1 rfl (by kernel_rfl))
      replace e4:[c4]=_:=e4;simp only [List.cons.injEq,and_true] at e4;obtain rfl:=e0;obtain rfl:=e1;obtain rfl:=e2;obtain rfl:=e3;obtain rfl:=e4;exact ⟨⟨x0,x1,x2,x3,x4⟩,ad,cap,css,rfl,f4,.mk_ k0 k1 k2 k3 k4⟩
theorem A7x {H:Type} {enc:TypeId×Value→H} {w:World} {cs:List Value} (h:Reads enc Tryz.prog w 88 cs):∃(x:ref04_Node) (ad1:Option Addr) (cap2:Nat) (css3:List (List Value)),cs=[.int .i64 x.Op,.int .i64 x.Value_,.int .i64 x.Rays,.int .i64 x.Gates,.slice ad1 x.Args.length cap2]∧ArrQ (Cv w) 5 Rp88 ad1 cap2 css3 x.Args∧ok88 x:=by
  obtain ⟨f,h⟩:=h.ex;exact A7h f cs h
def A3i (x:ref04_Rule):Prop:=ok9 x.Name∧ok88 x.When
theorem A7g {H:Type} {enc:TypeId×Value→H} {w:World} {cs:List Value} (h:Reads enc Tryz.prog w 101 cs):∃(x:ref04_Rule) (ad1:Option Addr) (cap2:Nat) (css3:List (List Value)),cs=[.string x.Name,.int .i64 x.When.Op,.int .i64 x.When.Value_,.int .i64 x.When.Rays,.int .i64 x.When.Gates,.slice ad1 x.When.Args.length cap2]∧ArrQ (Cv w) 5 Rp88 ad1 cap2 css3 x.When.Args∧A3i x:=by
  have hl:=(Reads.len Tryz.underlying101 h).trans (show Tryz.prog.cellsOf 101=6 by kernel_rfl)
  match cs,hl with
  | [c0,c1,c2,c3,c4,c5],_ =>
    obtain ⟨x0,e0,k0⟩:=rd9 (Reads.field Tryz.underlying101 h 0 rfl 1 (by kernel_rfl));replace e0:[c0]=_:=e0;simp only [List.cons.injEq,and_true] at e0;obtain ⟨x1,ad1_1,cap2_1,css3_1,e1,f1_0,k1⟩:=A7x (Reads.field Tryz.underlying101 h 1 rfl 5 (by kernel_rfl));replace e1:[c1,c2,c3,c4,c5]=_:=e1;simp only [List.cons.injEq,and_true] at e1;obtain rfl:=e0;obtain ⟨rfl,rfl,rfl,rfl,rfl⟩:=e1;exact ⟨⟨x0,x1⟩,ad1_1,cap2_1,css3_1,rfl,f1_0,k0,k1⟩
def A7v (l:(List ref04_Rule)):Prop:=∀y∈l,A3i y
theorem A7w {H:Type} {enc:TypeId×Value→H} {w:World} {cs:List Value} (h:Reads enc Tryz.prog w 22 cs):∃(x:(List ref04_Rule)) (ad1:Option Addr) (cap2:Nat) (css3:List (List Value)),cs=[.slice ad1 x.length cap2]∧ArrQ (Cv w) 6 Rp101 ad1 cap2 css3 x∧A7v x:=by
  obtain ⟨ad,cap,css,l,e,hA,k⟩:=Reads.sliceQ (R:=Rp101) (ok:=A3i) (sz:=6) Tryz.underlying22 (by kernel_rfl) (by decide) (fun c _ hr=>by
    obtain ⟨x,ad1,cap2,css3,e,f0,k⟩:=A7g hr;exact ⟨x,⟨ad1,cap2,css3,e,f0⟩,k⟩) h
  exact ⟨l,ad,cap,css,e,hA,k⟩
end Go.Proofs.YtkjnafecmjakcaaGreatDoor
