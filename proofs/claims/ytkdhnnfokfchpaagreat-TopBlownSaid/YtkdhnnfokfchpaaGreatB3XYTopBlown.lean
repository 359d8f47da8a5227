import Derived.Test.YtkdhnnfokfchpaaGreatRows
import Derived.Test.YtkdhnnfokfchpaaGreatB3XR
import Derived.Test.YtkdhnnfokfchpaaGreatB3XB
import Derived.Test.YtkdhnnfokfchpaaGreatB3XW14
import Derived.WalkKit
import Derived.ProofKit
import Derived.OpenShut
import Derived.ChangeOld
import Derived.Below
namespace Go.Proofs.YtkdhnnfokfchpaaGreat.topBlown
open Go Go.Eng Go.ChangeShapes Go.WideShapes Go.ChangeAt Go.RowKit
set_option linter.unusedVariables false
theorem own:ownKnob Tryz.prog.godebug=none:=by kernel_rfl
theorem A6l:laidOutB Tryz.prog=true:=by kernel_rfl
set_option maxRecDepth 100000 in
theorem A8r (os:Os) (started:os.Started) (H:Type) (enc:TypeId×Value->H) :
    ReturnsInHanded {} Tryz.checked os 3 .any (Rows.topBlownSpec.pre6 enc Tryz.prog Tryz.f3 Rows.topBlownRow.domain false) (Rows.topBlownSpec.post enc Tryz.prog Tryz.f3 false true false false):=by
  refine returnsInHanded_of_change (C:=Tryz.checked) own started (by kernel_rfl) Tryz.func3
    (ChangeSpec.witness6 (enc:=enc) (C:=Tryz.checked) false ⟨#[],#[.agg #[.int .i16 0,.int .i16 0,.int .u8 0,.int .u8 0,.int .u8 0,.int .u8 0,.int .u8 0,.int .u8 0,.int .u8 0,.int .i16 0,.slice none 0 0,.int .u16 0,.int .u8 0,.slice none 0 0,.slice none 0 0,.int .u8 0]],[]⟩ 8 (by kernel_rfl) (by kernel_rfl) (by kernel_rfl) (by kernel_rfl)) ?_
  intro W base args ds gs A3n hval0 hW hcnd _;have hval:∀(j:Nat) t v,Tryz.f3.params[j]? = some t->args[j]? = some v->Value.okWide Tryz.prog W .any base t v:=hval0;have hW':=hW;obtain ⟨p,q,hA0,hV,rfl,hfz,hnd⟩:=hW;have hA:DataW.TrodAll enc Tryz.prog W 0 (λ_=>true) true Tryz.f3.params.toList args.toList ds p:=hA0;rw [Tryz.params3] at hA hval;obtain ⟨v0,vs0,d0,ds0,p0,q0,hargs,rfl,rfl,h0,r0⟩:=trodAll_cons hA;obtain ⟨rfl,rfl,rfl⟩:=trodAll_nil r0;obtain rfl:args=#[v0]:=by cases args;simp_all
  obtain ⟨rfl,rfl⟩:=trodVars_none hV;have kk0:=h0;have lt0:∀x∈p0,x.block<W.heap.size:=by obtain ⟨m,hm⟩:=kk0;exact DataW.trod_lt m _ _ _ hm
  have hrd0:=Reads.of h0;obtain ⟨cs0,rfl,hc0⟩:=Reads.struct Tryz.underlying30 (hval 0 30 v0 rfl rfl);rw [hc0] at hrd0;obtain ⟨x0,ad1_0,cap2_0,ad3_0,cap4_0,ad5_0,cap6_0,rfl,hf0_0,hf0_1,hf0_2,ok0⟩:=B10 hrd0
  clear hA0 hval0
  obtain ⟨F,hp⟩:∃F,Lg F x0=some true:=(have a:=ok0.2.2.2.1;⟨FS,Xr x0 ⟨ok0.1,ok0.2.1,ok0.2.2.1,⟨a.1,a.2.1,a.2.2.1,a.2.2.2.1,a.2.2.2.2.1,a.2.2.2.2.2.2.2.2.2.1,a.2.2.2.2.2.2.2.2.2.2.1,a.2.2.2.2.2.2.2.2.2.2.2⟩,ok0.2.2.2.2⟩⟩);refine (Ui F x0 true hp (B5 W) W (Ai W) hf0_0 hf0_1 hf0_2).mono λe W' ⟨he,bel⟩=>?_;subst he;exact ⟨_,rfl,_,_,_,[],_,[],hW',trodAll_mk1 (shut_bool Tryz.underlying4 _),(trodAll_cons_mk (Below.trod A6l (by kernel_rfl) (of_decide_eq_true (by kernel_rfl)) kk0 bel lt0) trodAll_mk0),rfl,bel.frame _,λh=>by cases h⟩
theorem over:Rows.topBlownRow.holds Tryz.pinned (OpenSpec.ofChange Rows.topBlownSpec) :=
  OpenClaim.holds_of_wide 3 Tryz.f3 rfl rfl rfl rfl rfl rfl rfl ⟨rfl,rfl,rfl,rfl,rfl⟩ rfl rfl rfl rfl rfl (by kernel_rfl) Tryz.func3 (by kernel_rfl)
    (of_decide_eq_true (by kernel_rfl)) (by unfold Func.isWrapper;first|(rw [if_pos (by decide +kernel)];kernel_rfl)|(rw [if_neg (by decide +kernel)];exact ⟨rfl,rfl⟩))
    (λos started H enc _=>A8r os started H enc)
end Go.Proofs.YtkdhnnfokfchpaaGreat.topBlown
namespace Go.Proofs.YtkdhnnfokfchpaaGreat
theorem topBlown_holds:Rows.TopBlownSaid:=topBlown.over
#print axioms topBlown_holds
end Go.Proofs.YtkdhnnfokfchpaaGreat
