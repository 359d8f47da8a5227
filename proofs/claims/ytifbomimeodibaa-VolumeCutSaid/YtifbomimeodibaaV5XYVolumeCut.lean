import Derived.Test.YtifbomimeodibaaRows
import Derived.Test.YtifbomimeodibaaV5XR
import Derived.Test.YtifbomimeodibaaV5XV
import Derived.Test.YtifbomimeodibaaV5XW14
import Derived.WalkKit
import Derived.ProofKit
import Derived.OpenShut
import Derived.ChangeOld
import Derived.Below
namespace Go.Proofs.Ytifbomimeodibaa.volumeCut
open Go Go.Eng Go.ChangeShapes Go.WideShapes Go.ChangeAt Go.RowKit
set_option linter.unusedVariables false
theorem own:ownKnob Try.prog.godebug=none:=by kernel_rfl
theorem Tt:laidOutB Try.prog=true:=by kernel_rfl
set_option maxRecDepth 100000 in
theorem A09 (os:Os) (started:os.Started) (H:Type) (enc:TypeId×Value→H) :
    ReturnsInHanded {} Try.checked os 5 .any (Rows.volumeCutSpec.pre6 enc Try.prog Try.f5 Rows.volumeCutRow.domain false) (Rows.volumeCutSpec.post enc Try.prog Try.f5 false true false false):=by
  refine returnsInHanded_of_change (C:=Try.checked) own started (by kernel_rfl) Try.func5
    (ChangeSpec.witness6 (enc:=enc) (C:=Try.checked) false ⟨#[],#[.slice none 0 0,.int .u16 0,.agg #[.int .u8 0,.int .u32 0,.int .u8 0,.int .u8 0,.int .u8 0,.slice none 0 0]],[]⟩ 8 (by kernel_rfl) (by kernel_rfl) (by kernel_rfl) (by kernel_rfl)) ?_
  intro W base args ds gs before hval0 hW hcnd _
  have hval:∀(j:Nat) t v,Try.f5.params[j]? = some t→args[j]? = some v→Value.okWide Try.prog W .any base t v:=hval0
  have hW':=hW
  obtain ⟨p,q,hA0,hV,rfl,hfz,hnd⟩:=hW
  have hA:DataW.TrodAll enc Try.prog W 0 (fun _=>true) true Try.f5.params.toList args.toList ds p:=hA0
  rw [Try.params5] at hA hval
  obtain ⟨v0,vs0,d0,ds0,p0,q0,hargs,rfl,rfl,h0,r0⟩:=trodAll_cons hA
  obtain ⟨v1,vs1,d1,ds1,p1,q1,rfl,rfl,rfl,h1,r1⟩:=trodAll_cons r0
  obtain ⟨v2,vs2,d2,ds2,p2,q2,rfl,rfl,rfl,h2,r2⟩:=trodAll_cons r1
  obtain ⟨rfl,rfl,rfl⟩:=trodAll_nil r2
  obtain rfl:args=#[v0,v1,v2]:=by cases args;simp_all
  obtain ⟨rfl,rfl⟩:=trodVars_none hV
  have kk0:=h0
  have lt0:∀x∈p0,x.block<W.heap.size:=by obtain ⟨m,hm⟩:=kk0;exact DataW.trod_lt m _ _ _ hm
  have hrd0:=Reads.of h0
  obtain ⟨sa0,sl0,sc0,rfl⟩:=okWide_slice Try.underlying22 (hval 0 22 v0 rfl rfl)
  obtain ⟨x0,ad1_0,cap2_0,css3_0,e0,hf0_0,ok0⟩:=A2a hrd0
  simp [Value.cells] at e0
  obtain ⟨rfl,rfl,rfl⟩:=e0
  have kk1:=h1
  have lt1:∀x∈p1,x.block<W.heap.size:=by obtain ⟨m,hm⟩:=kk1;exact DataW.trod_lt m _ _ _ hm
  have hrd1:=Reads.of h1
  obtain ⟨n1,rfl⟩:=okWide_int Try.underlying50 (hval 1 50 v1 rfl rfl)
  obtain ⟨x1,e1,ok1⟩:=A2b hrd1
  simp [Value.cells] at e1
  have e1_:=e1.symm
  subst e1_
  have kk2:=h2
  have lt2:∀x∈p2,x.block<W.heap.size:=by obtain ⟨m,hm⟩:=kk2;exact DataW.trod_lt m _ _ _ hm
  have hrd2:=Reads.of h2
  obtain ⟨cs2,rfl,hc2⟩:=Reads.struct Try.underlying58 (hval 2 58 v2 rfl rfl)
  rw [hc2] at hrd2
  obtain ⟨x2,ad1_2,cap2_2,rfl,hf2_0,ok2⟩:=A1v hrd2
  clear hA0 hval0
  obtain ⟨F,hp⟩:∃F,H4 F x0 x1 x2=some true:=⟨FV,To x0 ok0 x1 x2 ok1 ok2⟩
  refine (Pn F x0 x1 x2 true hp (Bl W) W (A7 W) hf0_0 hf2_0).mono fun e W' ⟨he,bel⟩=>?_
  subst he
  exact ⟨_,rfl,_,_,_,[],_,[],hW',trodAll_mk1 (shut_bool Try.underlying4 _),(trodAll_cons_mk (Below.trod Tt (by kernel_rfl) (of_decide_eq_true (by kernel_rfl)) kk0 bel lt0) (trodAll_cons_mk (Below.trod Tt (by kernel_rfl) (of_decide_eq_true (by kernel_rfl)) kk1 bel lt1) (trodAll_cons_mk (Below.trod Tt (by kernel_rfl) (of_decide_eq_true (by kernel_rfl)) kk2 bel lt2) trodAll_mk0))),rfl,bel.frame _,fun h=>by cases h⟩
theorem over:Rows.volumeCutRow.holds Try.pinned (OpenSpec.ofChange Rows.volumeCutSpec) :=
  OpenClaim.holds_of_wide 5 Try.f5 rfl rfl rfl rfl rfl rfl rfl ⟨rfl,rfl,rfl,rfl,rfl⟩ rfl rfl rfl rfl rfl (by kernel_rfl) Try.func5 (by kernel_rfl)
    (of_decide_eq_true (by kernel_rfl)) (by unfold Func.isWrapper;first|(rw [if_pos (by decide +kernel)];kernel_rfl)|(rw [if_neg (by decide +kernel)];exact ⟨rfl,rfl⟩))
    (fun os started H enc _=>A09 os started H enc)
end Go.Proofs.Ytifbomimeodibaa.volumeCut
namespace Go.Proofs.Ytifbomimeodibaa
theorem volumeCut_holds:Rows.VolumeCutSaid:=volumeCut.over
#print axioms volumeCut_holds
end Go.Proofs.Ytifbomimeodibaa
