import Derived.Test.YtifbomimeodibaaRows
import Derived.Test.YtifbomimeodibaaV4XR
import Derived.Test.YtifbomimeodibaaV4XV
import Derived.Test.YtifbomimeodibaaV4XW14
import Derived.WalkKit
import Derived.ProofKit
import Derived.OpenShut
import Derived.ChangeOld
import Derived.Below
namespace Go.Proofs.Ytifbomimeodibaa.volumeChanged
open Go Go.Eng Go.ChangeShapes Go.WideShapes Go.ChangeAt Go.RowKit
set_option linter.unusedVariables false
theorem own:ownKnob Try.prog.godebug=none:=by kernel_rfl
theorem U7:laidOutB Try.prog=true:=by kernel_rfl
set_option maxRecDepth 100000 in
theorem A13 (os:Os) (started:os.Started) (H:Type) (enc:TypeId×Value→H) :
    ReturnsInHanded {} Try.checked os 4 .any (Rows.volumeChangedSpec.pre6 enc Try.prog Try.f4 Rows.volumeChangedRow.domain false) (Rows.volumeChangedSpec.post enc Try.prog Try.f4 false true false false):=by
  refine returnsInHanded_of_change (C:=Try.checked) own started (by kernel_rfl) Try.func4
    (ChangeSpec.witness6 (enc:=enc) (C:=Try.checked) false ⟨#[],#[.slice none 0 0,.int .u16 0,.int .u8 0],[]⟩ 8 (by kernel_rfl) (by kernel_rfl) (by kernel_rfl) (by kernel_rfl)) ?_
  intro W base args ds gs before hval0 hW hcnd _
  have hval:∀(j:Nat) t v,Try.f4.params[j]? = some t→args[j]? = some v→Value.okWide Try.prog W .any base t v:=hval0
  have hW':=hW
  obtain ⟨p,q,hA0,hV,rfl,hfz,hnd⟩:=hW
  have hA:DataW.TrodAll enc Try.prog W 0 (fun _=>true) true Try.f4.params.toList args.toList ds p:=hA0
  rw [Try.params4] at hA hval
  obtain ⟨v0,vs0,d0,ds0,p0,q0,hargs,rfl,rfl,h0,r0⟩:=trodAll_cons hA
  obtain ⟨v1,vs1,d1,ds1,p1,q1,rfl,rfl,rfl,h1,r1⟩:=trodAll_cons r0
  obtain ⟨v2,vs2,d2,ds2,p2,q2,rfl,rfl,rfl,h2,r2⟩:=trodAll_cons r1
  obtain ⟨rfl,rfl,rfl⟩:=trodAll_nil r2
  obtain rfl:args=#[v0,v1,v2]:=by cases args;simp_all
  obtain ⟨rfl,rfl⟩:=trodVars_none hV
  have kk0:=h0
  have lt0:∀x∈p0,x.block<W.heap.size:=by obtain ⟨m,hm⟩:=kk0;exact DataW.trod_lt m _ _ _ hm
  have hrd0:=Reads.of h0
  obtain ⟨sa0,sl0,sc0,rfl⟩:=okWide_slice Try.underlying22 (hval 0 22 v0 rfl rfl)
  obtain ⟨x0,ad1_0,cap2_0,css3_0,e0,hf0_0,ok0⟩:=A2z hrd0
  simp [Value.cells] at e0
  obtain ⟨rfl,rfl,rfl⟩:=e0
  have kk1:=h1
  have lt1:∀x∈p1,x.block<W.heap.size:=by obtain ⟨m,hm⟩:=kk1;exact DataW.trod_lt m _ _ _ hm
  have hrd1:=Reads.of h1
  obtain ⟨n1,rfl⟩:=okWide_int Try.underlying50 (hval 1 50 v1 rfl rfl)
  obtain ⟨x1,e1,ok1⟩:=A30 hrd1
  simp [Value.cells] at e1
  have e1_:=e1.symm
  subst e1_
  have kk2:=h2
  have lt2:∀x∈p2,x.block<W.heap.size:=by obtain ⟨m,hm⟩:=kk2;exact DataW.trod_lt m _ _ _ hm
  have hrd2:=Reads.of h2
  obtain ⟨n2,rfl⟩:=okWide_int Try.underlying5 (hval 2 5 v2 rfl rfl)
  obtain ⟨x2,e2,ok2⟩:=rd5 hrd2
  simp [Value.cells] at e2
  have e2_:=e2.symm
  subst e2_
  clear hA0 hval0
  obtain ⟨F,hp⟩:∃F,Fa F x0 x1 x2=some true:=⟨FV,Qw x0 ok0 x1 x2 ok1 ok2⟩
  refine (N8 F x0 x1 x2 true hp (Bp W) W (A7 W) hf0_0).mono fun e W' ⟨he,bel⟩=>?_
  subst he
  exact ⟨_,rfl,_,_,_,[],_,[],hW',trodAll_mk1 (shut_bool Try.underlying4 _),(trodAll_cons_mk (Below.trod U7 (by kernel_rfl) (of_decide_eq_true (by kernel_rfl)) kk0 bel lt0) (trodAll_cons_mk (Below.trod U7 (by kernel_rfl) (of_decide_eq_true (by kernel_rfl)) kk1 bel lt1) (trodAll_cons_mk (Below.trod U7 (by kernel_rfl) (of_decide_eq_true (by kernel_rfl)) kk2 bel lt2) trodAll_mk0))),rfl,bel.frame _,fun h=>by cases h⟩
theorem over:Rows.volumeChangedRow.holds Try.pinned (OpenSpec.ofChange Rows.volumeChangedSpec) :=
  OpenClaim.holds_of_wide 4 Try.f4 rfl rfl rfl rfl rfl rfl rfl ⟨rfl,rfl,rfl,rfl,rfl⟩ rfl rfl rfl rfl rfl (by kernel_rfl) Try.func4 (by kernel_rfl)
    (of_decide_eq_true (by kernel_rfl)) (by unfold Func.isWrapper;first|(rw [if_pos (by decide +kernel)];kernel_rfl)|(rw [if_neg (by decide +kernel)];exact ⟨rfl,rfl⟩))
    (fun os started H enc _=>A13 os started H enc)
end Go.Proofs.Ytifbomimeodibaa.volumeChanged
namespace Go.Proofs.Ytifbomimeodibaa
theorem volumeChanged_holds:Rows.VolumeChangedSaid:=volumeChanged.over
#print axioms volumeChanged_holds
end Go.Proofs.Ytifbomimeodibaa
