import Derived.Test.YtbhjgebjojdohaaRows
import Derived.Test.YtbhjgebjojdohaaF11XR
import Derived.Test.YtbhjgebjojdohaaF11XG
import Derived.Test.YtbhjgebjojdohaaF11XW6
import Derived.WalkKit
import Derived.ProofKit
import Derived.OpenShut
import Derived.ChangeOld
import Derived.Below
namespace Go.Proofs.Ytbhjgebjojdohaa.foldFewer
open Go Go.Eng Go.ChangeShapes Go.WideShapes Go.ChangeAt Go.RowKit
set_option linter.unusedVariables false
theorem own : ownKnob Try.prog.godebug = none:=by kernel_rfl
theorem laidOut : laidOutB Try.prog = true:=by kernel_rfl
set_option maxRecDepth 100000 in
theorem lifted (os : Os) (started : os.Started) (H : Type) (enc : TypeId×Value→H) :
    ReturnsInHanded {} Try.checked os 11 .any (Rows.foldFewerSpec.pre6 enc Try.prog Try.f11 Rows.foldFewerRow.domain false) (Rows.foldFewerSpec.post enc Try.prog Try.f11 false true false false):=by
  refine returnsInHanded_of_change (C:=Try.checked) own started (by kernel_rfl) Try.func11
    (ChangeSpec.witness6 (enc:=enc) (C:=Try.checked) false ⟨#[],#[.slice none 0 0,.int .u8 0,.agg #[.int .u8 0,.int .u8 0],.agg #[.int .u8 0,.int .u8 0],.slice none 0 0],[]⟩ 8 (by kernel_rfl) (by kernel_rfl) (by kernel_rfl) (by kernel_rfl)) ?_
  intro W base args ds gs before hval0 hW hcnd _
  have hval : ∀ (j : Nat) t v,Try.f11.params[j]? = some t→args[j]? = some v→Value.okWide Try.prog W .any base t v:=hval0
  have hW':=hW
  obtain ⟨p,q,hA0,hV,rfl,hfz,hnd⟩:=hW
  have hA : DataW.TrodAll enc Try.prog W 0 (fun _=>true) true Try.f11.params.toList args.toList ds p:=hA0
  rw [Try.params11] at hA hval
  obtain ⟨v0,vs0,d0,ds0,p0,q0,hargs,rfl,rfl,h0,r0⟩:=trodAll_cons hA
  obtain ⟨v1,vs1,d1,ds1,p1,q1,rfl,rfl,rfl,h1,r1⟩:=trodAll_cons r0
  obtain ⟨v2,vs2,d2,ds2,p2,q2,rfl,rfl,rfl,h2,r2⟩:=trodAll_cons r1
  obtain ⟨v3,vs3,d3,ds3,p3,q3,rfl,rfl,rfl,h3,r3⟩:=trodAll_cons r2
  obtain ⟨v4,vs4,d4,ds4,p4,q4,rfl,rfl,rfl,h4,r4⟩:=trodAll_cons r3
  obtain ⟨rfl,rfl,rfl⟩:=trodAll_nil r4
  obtain rfl : args = #[v0,v1,v2,v3,v4]:=by cases args; simp_all
  obtain ⟨rfl,rfl⟩:=trodVars_none hV
  have kk0:=h0
  have lt0 : ∀ x ∈ p0,x.block < W.heap.size:=by obtain ⟨m,hm⟩:=kk0; exact DataW.trod_lt m _ _ _ hm
  have hrd0:=Reads.of h0
  obtain ⟨sa0,sl0,sc0,rfl⟩:=okWide_slice Try.underlying90 (hval 0 90 v0 rfl rfl)
  obtain ⟨x0,ad1_0,cap2_0,css3_0,e0,hf0_0,ok0⟩:=rd90 hrd0
  simp [Value.cells] at e0
  obtain ⟨rfl,rfl,rfl⟩:=e0
  have kk1:=h1
  have lt1 : ∀ x ∈ p1,x.block < W.heap.size:=by obtain ⟨m,hm⟩:=kk1; exact DataW.trod_lt m _ _ _ hm
  have hrd1:=Reads.of h1
  obtain ⟨n1,rfl⟩:=okWide_int Try.underlying5 (hval 1 5 v1 rfl rfl)
  obtain ⟨x1,e1,ok1⟩:=rd5 hrd1
  simp [Value.cells] at e1
  have e1_:=e1.symm
  subst e1_
  have kk2:=h2
  have lt2 : ∀ x ∈ p2,x.block < W.heap.size:=by obtain ⟨m,hm⟩:=kk2; exact DataW.trod_lt m _ _ _ hm
  have hrd2:=Reads.of h2
  obtain ⟨cs2,rfl,hc2⟩:=Reads.arrayV Try.underlying95 (hval 2 95 v2 rfl rfl)
  rw [hc2] at hrd2
  obtain ⟨x2,rfl,ok2⟩:=rd95 hrd2
  have kk3:=h3
  have lt3 : ∀ x ∈ p3,x.block < W.heap.size:=by obtain ⟨m,hm⟩:=kk3; exact DataW.trod_lt m _ _ _ hm
  have hrd3:=Reads.of h3
  obtain ⟨cs3,rfl,hc3⟩:=Reads.arrayV Try.underlying95 (hval 3 95 v3 rfl rfl)
  rw [hc3] at hrd3
  obtain ⟨x3,rfl,ok3⟩:=rd95 hrd3
  have kk4:=h4
  have lt4 : ∀ x ∈ p4,x.block < W.heap.size:=by obtain ⟨m,hm⟩:=kk4; exact DataW.trod_lt m _ _ _ hm
  have hrd4:=Reads.of h4
  obtain ⟨sa4,sl4,sc4,rfl⟩:=okWide_slice Try.underlying91 (hval 4 91 v4 rfl rfl)
  obtain ⟨x4,ad1_4,cap2_4,e4,hf4_0,ok4⟩:=rd91 hrd4
  simp [Value.cells] at e4
  obtain ⟨rfl,rfl,rfl⟩:=e4
  clear hA0 hval0
  obtain ⟨F,hp⟩ : ∃ F,law03_FoldFewer F x0 x1 x2 x3 x4 = some true:=⟨FS,FoldFewer_eq FS (Nat.le_refl _) x0 ok0 x1 ok1 x2 x3 ok2.1 ok2.2 ok3.1 ok3.2 x4 ok4⟩
  refine (law03_FoldFewer_ok F x0 x1 x2 x3 x4 true hp (memOf W) W (memOf_at W) hf0_0 hf4_0).mono fun e W' ⟨he,bel⟩=>?_
  subst he
  exact ⟨_,rfl,_,_,_,[],_,[],hW',trodAll_mk1 (shut_bool Try.underlying4 _),(trodAll_cons_mk (Below.trod laidOut (by kernel_rfl) (of_decide_eq_true (by kernel_rfl)) kk0 bel lt0) (trodAll_cons_mk (Below.trod laidOut (by kernel_rfl) (of_decide_eq_true (by kernel_rfl)) kk1 bel lt1) (trodAll_cons_mk (Below.trod laidOut (by kernel_rfl) (of_decide_eq_true (by kernel_rfl)) kk2 bel lt2) (trodAll_cons_mk (Below.trod laidOut (by kernel_rfl) (of_decide_eq_true (by kernel_rfl)) kk3 bel lt3) (trodAll_cons_mk (Below.trod laidOut (by kernel_rfl) (of_decide_eq_true (by kernel_rfl)) kk4 bel lt4) trodAll_mk0))))),rfl,bel.frame _,fun h=>by cases h⟩
theorem over : Rows.foldFewerRow.holds Try.pinned (OpenSpec.ofChange Rows.foldFewerSpec) :=
  OpenClaim.holds_of_wide 11 Try.f11 rfl rfl rfl rfl rfl rfl rfl ⟨rfl,rfl,rfl,rfl,rfl⟩ rfl rfl rfl rfl rfl (by kernel_rfl) Try.func11 (by kernel_rfl)
    (of_decide_eq_true (by kernel_rfl)) (by unfold Func.isWrapper; first | (rw [if_pos (by decide +kernel)]; kernel_rfl) | (rw [if_neg (by decide +kernel)]; exact ⟨rfl,rfl⟩))
    (fun os started H enc _=>lifted os started H enc)
end Go.Proofs.Ytbhjgebjojdohaa.foldFewer
namespace Go.Proofs.Ytbhjgebjojdohaa
theorem foldFewer_holds : Rows.FoldFewerSaid:=foldFewer.over
#print axioms foldFewer_holds
end Go.Proofs.Ytbhjgebjojdohaa
