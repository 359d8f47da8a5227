import Derived.Test.YtjfhcbjhjeklbaaGreatRows
import Derived.Test.YtjfhcbjhjeklbaaGreatT3XR
import Derived.Test.YtjfhcbjhjeklbaaGreatT3XQ
import Derived.Test.YtjfhcbjhjeklbaaGreatT3XW11
import Derived.WalkKit
import Derived.ProofKit
import Derived.OpenShut
import Derived.ChangeOld
import Derived.Below
namespace Go.Proofs.YtjfhcbjhjeklbaaGreat.topFiled
open Go Go.Eng Go.ChangeShapes Go.WideShapes Go.ChangeAt Go.RowKit
set_option linter.unusedVariables false
theorem own:ownKnob Tryz.prog.godebug=none:=by kernel_rfl
theorem B0y:laidOutB Tryz.prog=true:=by kernel_rfl
set_option maxRecDepth 100000 in
theorem B3f (os:Os) (started:os.Started) (H:Type) (enc:TypeId×Value->H) :
    ReturnsInHanded {} Tryz.checked os 3 .any (Rows.topFiledSpec.pre6 enc Tryz.prog Tryz.f3 Rows.topFiledRow.domain false) (Rows.topFiledSpec.post enc Tryz.prog Tryz.f3 false true false false):=by
  refine returnsInHanded_of_change (C:=Tryz.checked) own started (by kernel_rfl) Tryz.func3
    (ChangeSpec.witness6 (enc:=enc) (C:=Tryz.checked) false ⟨#[],#[.agg #[.slice none 0 0,.int .u32 0,.int .u32 0,.slice none 0 0,.int .u16 0]],[]⟩ 8 (by kernel_rfl) (by kernel_rfl) (by kernel_rfl) (by kernel_rfl)) ?_
  intro W base args ds gs before hval0 hW hcnd _;have hval:∀(j:Nat) t v,Tryz.f3.params[j]? = some t->args[j]? = some v->Value.okWide Tryz.prog W .any base t v:=hval0;have hW':=hW;obtain ⟨p,q,hA0,hV,rfl,hfz,hnd⟩:=hW;have hA:DataW.TrodAll enc Tryz.prog W 0 (λ_=>true) true Tryz.f3.params.toList args.toList ds p:=hA0;rw [Tryz.params3] at hA hval;obtain ⟨v0,vs0,d0,ds0,p0,q0,hargs,rfl,rfl,h0,r0⟩:=trodAll_cons hA;obtain ⟨rfl,rfl,rfl⟩:=trodAll_nil r0;obtain rfl:args=#[v0]:=by cases args;simp_all
  obtain ⟨rfl,rfl⟩:=trodVars_none hV;have kk0:=h0;have lt0:∀x∈p0,x.block<W.heap.size:=by obtain ⟨m,hm⟩:=kk0;exact DataW.trod_lt m _ _ _ hm
  have hrd0:=Reads.of h0;obtain ⟨cs0,rfl,hc0⟩:=Reads.struct Tryz.underlying27 (hval 0 27 v0 rfl rfl);rw [hc0] at hrd0;obtain ⟨x0,ad1_0,cap2_0,ad3_0,cap4_0,rfl,hf0_0,hf0_1,ok0⟩:=B7f hrd0
  clear hA0 hval0
  obtain ⟨F,hp⟩:∃F,Ml F x0=some true:=⟨300000,A1t x0 (λm hm=>ok0.1 m hm) ok0.2.1 ok0.2.2.1 ok0.2.2.2.1 ok0.2.2.2.2⟩;refine (Xk F x0 true hp (Cv W) W (Au W) hf0_0 hf0_1).mono λe W' ⟨he,bel⟩=>?_;subst he;exact ⟨_,rfl,_,_,_,[],_,[],hW',trodAll_mk1 (shut_bool Tryz.underlying4 _),(trodAll_cons_mk (Below.trod B0y (by kernel_rfl) (of_decide_eq_true (by kernel_rfl)) kk0 bel lt0) trodAll_mk0),rfl,bel.frame _,λh=>by cases h⟩
theorem over:Rows.topFiledRow.holds Tryz.pinned (OpenSpec.ofChange Rows.topFiledSpec) :=
  OpenClaim.holds_of_wide 3 Tryz.f3 rfl rfl rfl rfl rfl rfl rfl ⟨rfl,rfl,rfl,rfl,rfl⟩ rfl rfl rfl rfl rfl (by kernel_rfl) Tryz.func3 (by kernel_rfl)
    (of_decide_eq_true (by kernel_rfl)) (by unfold Func.isWrapper;first|(rw [if_pos (by decide +kernel)];kernel_rfl)|(rw [if_neg (by decide +kernel)];exact ⟨rfl,rfl⟩))
    (λos started H enc _=>B3f os started H enc)
end Go.Proofs.YtjfhcbjhjeklbaaGreat.topFiled
namespace Go.Proofs.YtjfhcbjhjeklbaaGreat
theorem topFiled_holds:Rows.TopFiledSaid:=topFiled.over
#print axioms topFiled_holds
end Go.Proofs.YtjfhcbjhjeklbaaGreat
