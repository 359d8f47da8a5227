import Derived.Test.YtifbomimeodibaaRows
import Derived.Test.YtifbomimeodibaaV3XR
import Derived.Test.YtifbomimeodibaaV3XV
import Derived.Test.YtifbomimeodibaaV3XW14
import Derived.WalkKit
import Derived.ProofKit
import Derived.OpenShut
import Derived.ChangeOld
import Derived.Below
namespace Go.Proofs.Ytifbomimeodibaa.volumeBack
open Go Go.Eng Go.ChangeShapes Go.WideShapes Go.ChangeAt Go.RowKit
set_option linter.unusedVariables false
theorem own:ownKnob Try.prog.godebug=none:=by kernel_rfl
theorem Vw:laidOutB Try.prog=true:=by kernel_rfl
set_option maxRecDepth 100000 in
theorem A0c (os:Os) (started:os.Started) (H:Type) (enc:TypeId×Value→H) :
    ReturnsInHanded {} Try.checked os 3 .any (Rows.volumeBackSpec.pre6 enc Try.prog Try.f3 Rows.volumeBackRow.domain false) (Rows.volumeBackSpec.post enc Try.prog Try.f3 false true false false):=by
  refine returnsInHanded_of_change (C:=Try.checked) own started (by kernel_rfl) Try.func3
    (ChangeSpec.witness6 (enc:=enc) (C:=Try.checked) false ⟨#[],#[.slice none 0 0,.slice none 0 0],[]⟩ 8 (by kernel_rfl) (by kernel_rfl) (by kernel_rfl) (by kernel_rfl)) ?_
  intro W base args ds gs before hval0 hW hcnd _
  have hval:∀(j:Nat) t v,Try.f3.params[j]? = some t→args[j]? = some v→Value.okWide Try.prog W .any base t v:=hval0
  have hW':=hW
  obtain ⟨p,q,hA0,hV,rfl,hfz,hnd⟩:=hW
  have hA:DataW.TrodAll enc Try.prog W 0 (fun _=>true) true Try.f3.params.toList args.toList ds p:=hA0
  rw [Try.params3] at hA hval
  obtain ⟨v0,vs0,d0,ds0,p0,q0,hargs,rfl,rfl,h0,r0⟩:=trodAll_cons hA
  obtain ⟨v1,vs1,d1,ds1,p1,q1,rfl,rfl,rfl,h1,r1⟩:=trodAll_cons r0
  obtain ⟨rfl,rfl,rfl⟩:=trodAll_nil r1
  obtain rfl:args=#[v0,v1]:=by cases args;simp_all
  obtain ⟨rfl,rfl⟩:=trodVars_none hV
  have kk0:=h0
  have lt0:∀x∈p0,x.block<W.heap.size:=by obtain ⟨m,hm⟩:=kk0;exact DataW.trod_lt m _ _ _ hm
  have hrd0:=Reads.of h0
  obtain ⟨sa0,sl0,sc0,rfl⟩:=okWide_slice Try.underlying22 (hval 0 22 v0 rfl rfl)
  obtain ⟨x0,ad1_0,cap2_0,css3_0,e0,hf0_0,ok0⟩:=A29 hrd0
  simp [Value.cells] at e0
  obtain ⟨rfl,rfl,rfl⟩:=e0
  have kk1:=h1
  have lt1:∀x∈p1,x.block<W.heap.size:=by obtain ⟨m,hm⟩:=kk1;exact DataW.trod_lt m _ _ _ hm
  have hrd1:=Reads.of h1
  obtain ⟨sa1,sl1,sc1,rfl⟩:=okWide_slice Try.underlying23 (hval 1 23 v1 rfl rfl)
  obtain ⟨x1,ad1_1,cap2_1,e1,hf1_0,ok1⟩:=A2a hrd1
  simp [Value.cells] at e1
  obtain ⟨rfl,rfl,rfl⟩:=e1
  clear hA0 hval0
  obtain ⟨F,hp⟩:∃F,Gp F x0 x1=some true:=⟨FV,So x0 ok0 x1 ok1⟩
  refine (P9 F x0 x1 true hp (Bm W) W (A7 W) hf0_0 hf1_0).mono fun e W' ⟨he,bel⟩=>?_
  subst he
  exact ⟨_,rfl,_,_,_,[],_,[],hW',trodAll_mk1 (shut_bool Try.underlying4 _),(trodAll_cons_mk (Below.trod Vw (by kernel_rfl) (of_decide_eq_true (by kernel_rfl)) kk0 bel lt0) (trodAll_cons_mk (Below.trod Vw (by kernel_rfl) (of_decide_eq_true (by kernel_rfl)) kk1 bel lt1) trodAll_mk0)),rfl,bel.frame _,fun h=>by cases h⟩
theorem over:Rows.volumeBackRow.holds Try.pinned (OpenSpec.ofChange Rows.volumeBackSpec) :=
  OpenClaim.holds_of_wide 3 Try.f3 rfl rfl rfl rfl rfl rfl rfl ⟨rfl,rfl,rfl,rfl,rfl⟩ rfl rfl rfl rfl rfl (by kernel_rfl) Try.func3 (by kernel_rfl)
    (of_decide_eq_true (by kernel_rfl)) (by unfold Func.isWrapper;first|(rw [if_pos (by decide +kernel)];kernel_rfl)|(rw [if_neg (by decide +kernel)];exact ⟨rfl,rfl⟩))
    (fun os started H enc _=>A0c os started H enc)
end Go.Proofs.Ytifbomimeodibaa.volumeBack
namespace Go.Proofs.Ytifbomimeodibaa
theorem volumeBack_holds:Rows.VolumeBackSaid:=volumeBack.over
#print axioms volumeBack_holds
end Go.Proofs.Ytifbomimeodibaa
