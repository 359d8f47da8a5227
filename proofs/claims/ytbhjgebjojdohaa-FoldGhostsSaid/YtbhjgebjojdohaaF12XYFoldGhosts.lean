import Derived.Test.YtbhjgebjojdohaaRows
import Derived.Test.YtbhjgebjojdohaaF12XR
import Derived.Test.YtbhjgebjojdohaaF12XB
import Derived.Test.YtbhjgebjojdohaaF12XW1
import Derived.WalkKit
import Derived.ProofKit
import Derived.OpenShut
import Derived.ChangeOld
import Derived.Below
namespace Go.Proofs.Ytbhjgebjojdohaa.foldGhosts
open Go Go.Eng Go.ChangeShapes Go.WideShapes Go.ChangeAt Go.RowKit
set_option linter.unusedVariables false
theorem own:ownKnob Try.prog.godebug=none:=by kernel_rfl
theorem Lw:laidOutB Try.prog=true:=by kernel_rfl
set_option maxRecDepth 100000 in
theorem A0d (os:Os) (started:os.Started) (H:Type) (enc:TypeId×Value→H) :
    ReturnsInHanded {} Try.checked os 12 .any (Rows.foldGhostsSpec.pre6 enc Try.prog Try.f12 Rows.foldGhostsRow.domain false) (Rows.foldGhostsSpec.post enc Try.prog Try.f12 false true false false):=by
  refine returnsInHanded_of_change (C:=Try.checked) own started (by kernel_rfl) Try.func12
    (ChangeSpec.witness6 (enc:=enc) (C:=Try.checked) false ⟨#[],#[.agg #[.int .u8 0,.int .u8 0],.slice none 0 0,.slice none 0 0,.slice none 0 0],[]⟩ 8 (by kernel_rfl) (by kernel_rfl) (by kernel_rfl) (by kernel_rfl)) ?_
  intro W base args ds gs before hval0 hW hcnd _;have hval:∀(j:Nat) t v,Try.f12.params[j]? = some t→args[j]? = some v→Value.okWide Try.prog W .any base t v:=hval0;have hW':=hW;obtain ⟨p,q,hA0,hV,rfl,hfz,hnd⟩:=hW;have hA:DataW.TrodAll enc Try.prog W 0 (fun _=>true) true Try.f12.params.toList args.toList ds p:=hA0;rw [Try.params12] at hA hval;obtain ⟨v0,vs0,d0,ds0,p0,q0,hargs,rfl,rfl,h0,r0⟩:=trodAll_cons hA;obtain ⟨v1,vs1,d1,ds1,p1,q1,rfl,rfl,rfl,h1,r1⟩:=trodAll_cons r0;obtain ⟨v2,vs2,d2,ds2,p2,q2,rfl,rfl,rfl,h2,r2⟩:=trodAll_cons r1;obtain ⟨v3,vs3,d3,ds3,p3,q3,rfl,rfl,rfl,h3,r3⟩:=trodAll_cons r2;obtain ⟨rfl,rfl,rfl⟩:=trodAll_nil r3;obtain rfl:args=#[v0,v1,v2,v3]:=by cases args;simp_all
  obtain ⟨rfl,rfl⟩:=trodVars_none hV;have kk0:=h0;have lt0:∀x∈p0,x.block<W.heap.size:=by obtain ⟨m,hm⟩:=kk0;exact DataW.trod_lt m _ _ _ hm
  have hrd0:=Reads.of h0;obtain ⟨cs0,rfl,hc0⟩:=Reads.arrayV Try.underlying95 (hval 0 95 v0 rfl rfl);rw [hc0] at hrd0;obtain ⟨x0,rfl,ok0⟩:=A26 hrd0;have kk1:=h1;have lt1:∀x∈p1,x.block<W.heap.size:=by obtain ⟨m,hm⟩:=kk1;exact DataW.trod_lt m _ _ _ hm
  have hrd1:=Reads.of h1;obtain ⟨sa1,sl1,sc1,rfl⟩:=okWide_slice Try.underlying91 (hval 1 91 v1 rfl rfl);obtain ⟨x1,ad1_1,cap2_1,e1,hf1_0,ok1⟩:=A14 hrd1;simp [Value.cells] at e1;obtain ⟨rfl,rfl,rfl⟩:=e1;have kk2:=h2;have lt2:∀x∈p2,x.block<W.heap.size:=by obtain ⟨m,hm⟩:=kk2;exact DataW.trod_lt m _ _ _ hm
  have hrd2:=Reads.of h2;obtain ⟨sa2,sl2,sc2,rfl⟩:=okWide_slice Try.underlying91 (hval 2 91 v2 rfl rfl);obtain ⟨x2,ad1_2,cap2_2,e2,hf2_0,ok2⟩:=A14 hrd2;simp [Value.cells] at e2;obtain ⟨rfl,rfl,rfl⟩:=e2;have kk3:=h3;have lt3:∀x∈p3,x.block<W.heap.size:=by obtain ⟨m,hm⟩:=kk3;exact DataW.trod_lt m _ _ _ hm
  have hrd3:=Reads.of h3;obtain ⟨sa3,sl3,sc3,rfl⟩:=okWide_slice Try.underlying91 (hval 3 91 v3 rfl rfl);obtain ⟨x3,ad1_3,cap2_3,e3,hf3_0,ok3⟩:=A14 hrd3;simp [Value.cells] at e3;obtain ⟨rfl,rfl,rfl⟩:=e3
  clear hA0 hval0
  obtain ⟨F,hp⟩:∃F,Cu F x0 x1 x2 x3=some true:=⟨1000000000000,Nx x0 ok0 x1 ok1 x2 ok2 x3 ok3⟩;refine (Hp F x0 x1 x2 x3 true hp (Ap W) W (Ab W) hf1_0 hf2_0 hf3_0).mono fun e W' ⟨he,bel⟩=>?_;subst he;exact ⟨_,rfl,_,_,_,[],_,[],hW',trodAll_mk1 (shut_bool Try.underlying4 _),(trodAll_cons_mk (Below.trod Lw (by kernel_rfl) (of_decide_eq_true (by kernel_rfl)) kk0 bel lt0) (trodAll_cons_mk (Below.trod Lw (by kernel_rfl) (of_decide_eq_true (by kernel_rfl)) kk1 bel lt1) (trodAll_cons_mk (Below.trod Lw (by kernel_rfl) (of_decide_eq_true (by kernel_rfl)) kk2 bel lt2) (trodAll_cons_mk (Below.trod Lw (by kernel_rfl) (of_decide_eq_true (by kernel_rfl)) kk3 bel lt3) trodAll_mk0)))),rfl,bel.frame _,fun h=>by cases h⟩
theorem over:Rows.foldGhostsRow.holds Try.pinned (OpenSpec.ofChange Rows.foldGhostsSpec) :=
  OpenClaim.holds_of_wide 12 Try.f12 rfl rfl rfl rfl rfl rfl rfl ⟨rfl,rfl,rfl,rfl,rfl⟩ rfl rfl rfl rfl rfl (by kernel_rfl) Try.func12 (by kernel_rfl)
    (of_decide_eq_true (by kernel_rfl)) (by unfold Func.isWrapper;first|(rw [if_pos (by decide +kernel)];kernel_rfl)|(rw [if_neg (by decide +kernel)];exact ⟨rfl,rfl⟩))
    (fun os started H enc _=>A0d os started H enc)
end Go.Proofs.Ytbhjgebjojdohaa.foldGhosts
namespace Go.Proofs.Ytbhjgebjojdohaa
theorem foldGhosts_holds:Rows.FoldGhostsSaid:=foldGhosts.over
#print axioms foldGhosts_holds
end Go.Proofs.Ytbhjgebjojdohaa
