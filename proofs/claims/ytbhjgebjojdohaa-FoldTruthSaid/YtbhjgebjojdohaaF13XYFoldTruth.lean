import Derived.Test.YtbhjgebjojdohaaRows
import Derived.Test.YtbhjgebjojdohaaF13XR
import Derived.Test.YtbhjgebjojdohaaF13XG
import Derived.Test.YtbhjgebjojdohaaF13XW10
import Derived.WalkKit
import Derived.ProofKit
import Derived.OpenShut
import Derived.ChangeOld
import Derived.Below
namespace Go.Proofs.Ytbhjgebjojdohaa.foldTruth
open Go Go.Eng Go.ChangeShapes Go.WideShapes Go.ChangeAt Go.RowKit
set_option linter.unusedVariables false
theorem own:ownKnob Try.prog.godebug=none:=by kernel_rfl
theorem Zw:laidOutB Try.prog=true:=by kernel_rfl
set_option maxRecDepth 100000 in
theorem A7z (os:Os) (started:os.Started) (H:Type) (enc:TypeId×Value→H) :
    ReturnsInHanded {} Try.checked os 13 .any (Rows.foldTruthSpec.pre6 enc Try.prog Try.f13 Rows.foldTruthRow.domain false) (Rows.foldTruthSpec.post enc Try.prog Try.f13 false true false false):=by
  refine returnsInHanded_of_change (C:=Try.checked) own started (by kernel_rfl) Try.func13
    (ChangeSpec.witness6 (enc:=enc) (C:=Try.checked) false ⟨#[],#[.agg #[.int .u8 0,.int .u8 0,.int .u16 0,.int .u16 0,.int .u8 0,.int .u8 0,.int .i16 0,.slice none 0 0,.int .u32 0,.slice none 0 0,.slice none 0 0,.int .u16 0],.int .u8 0],[]⟩ 8 (by kernel_rfl) (by kernel_rfl) (by kernel_rfl) (by kernel_rfl)) ?_
  intro W base args ds gs A2n hval0 hW hcnd _;have hval:∀(j:Nat) t v,Try.f13.params[j]? = some t→args[j]? = some v→Value.okWide Try.prog W .any base t v:=hval0;have hW':=hW;obtain ⟨p,q,hA0,hV,rfl,hfz,hnd⟩:=hW;have hA:DataW.TrodAll enc Try.prog W 0 (fun _=>true) true Try.f13.params.toList args.toList ds p:=hA0;rw [Try.params13] at hA hval;obtain ⟨v0,vs0,d0,ds0,p0,q0,hargs,rfl,rfl,h0,r0⟩:=trodAll_cons hA;obtain ⟨v1,vs1,d1,ds1,p1,q1,rfl,rfl,rfl,h1,r1⟩:=trodAll_cons r0;obtain ⟨rfl,rfl,rfl⟩:=trodAll_nil r1;obtain rfl:args=#[v0,v1]:=by cases args;simp_all
  obtain ⟨rfl,rfl⟩:=trodVars_none hV;have kk0:=h0;have lt0:∀x∈p0,x.block<W.heap.size:=by obtain ⟨m,hm⟩:=kk0;exact DataW.trod_lt m _ _ _ hm
  have hrd0:=Reads.of h0;obtain ⟨cs0,rfl,hc0⟩:=Reads.struct Try.underlying72 (hval 0 72 v0 rfl rfl);rw [hc0] at hrd0;obtain ⟨x0,ad1_0,cap2_0,ad3_0,cap4_0,ad5_0,cap6_0,rfl,hf0_0,hf0_1,hf0_2,ok0⟩:=B0j hrd0;have kk1:=h1;have lt1:∀x∈p1,x.block<W.heap.size:=by obtain ⟨m,hm⟩:=kk1;exact DataW.trod_lt m _ _ _ hm
  have hrd1:=Reads.of h1;obtain ⟨n1,rfl⟩:=okWide_int Try.underlying5 (hval 1 5 v1 rfl rfl);obtain ⟨x1,e1,ok1⟩:=rd5 hrd1;simp [Value.cells] at e1;have e1_:=e1.symm;subst e1_
  clear hA0 hval0
  obtain ⟨F,hp⟩:∃F,Fi F x0 x1=some true:=⟨FS,Uw FS (Nat.le_refl _) x0 ⟨ok0.1,ok0.2.1,ok0.2.2.1,ok0.2.2.2.1,ok0.2.2.2.2.1,ok0.2.2.2.2.2.1,ok0.2.2.2.2.2.2.1,ok0.2.2.2.2.2.2.2.1,ok0.2.2.2.2.2.2.2.2.2.1,ok0.2.2.2.2.2.2.2.2.2.2.1,ok0.2.2.2.2.2.2.2.2.2.2.2⟩ x1 ok1⟩;refine (Nm F x0 x1 true hp (Bb W) W (A8 W) hf0_0 hf0_1 hf0_2).mono fun e W' ⟨he,bel⟩=>?_;subst he;exact ⟨_,rfl,_,_,_,[],_,[],hW',trodAll_mk1 (shut_bool Try.underlying4 _),(trodAll_cons_mk (Below.trod Zw (by kernel_rfl) (of_decide_eq_true (by kernel_rfl)) kk0 bel lt0) (trodAll_cons_mk (Below.trod Zw (by kernel_rfl) (of_decide_eq_true (by kernel_rfl)) kk1 bel lt1) trodAll_mk0)),rfl,bel.frame _,fun h=>by cases h⟩
theorem over:Rows.foldTruthRow.holds Try.pinned (OpenSpec.ofChange Rows.foldTruthSpec) :=
  OpenClaim.holds_of_wide 13 Try.f13 rfl rfl rfl rfl rfl rfl rfl ⟨rfl,rfl,rfl,rfl,rfl⟩ rfl rfl rfl rfl rfl (by kernel_rfl) Try.func13 (by kernel_rfl)
    (of_decide_eq_true (by kernel_rfl)) (by unfold Func.isWrapper;first|(rw [if_pos (by decide +kernel)];kernel_rfl)|(rw [if_neg (by decide +kernel)];exact ⟨rfl,rfl⟩))
    (fun os started H enc _=>A7z os started H enc)
end Go.Proofs.Ytbhjgebjojdohaa.foldTruth
namespace Go.Proofs.Ytbhjgebjojdohaa
theorem foldTruth_holds:Rows.FoldTruthSaid:=foldTruth.over
#print axioms foldTruth_holds
end Go.Proofs.Ytbhjgebjojdohaa
