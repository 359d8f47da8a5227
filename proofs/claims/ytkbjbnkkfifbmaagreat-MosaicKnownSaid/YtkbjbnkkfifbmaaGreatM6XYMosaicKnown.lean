import Derived.Test.YtkbjbnkkfifbmaaGreatRows
import Derived.Test.YtkbjbnkkfifbmaaGreatM6XR
import Derived.Test.YtkbjbnkkfifbmaaGreatM6XE
import Derived.Test.YtkbjbnkkfifbmaaGreatM6XW9
import Derived.WalkKit
import Derived.ProofKit
import Derived.OpenShut
import Derived.ChangeOld
import Derived.Below
namespace Go.Proofs.YtkbjbnkkfifbmaaGreat.mosaicKnown
open Go Go.Eng Go.ChangeShapes Go.WideShapes Go.ChangeAt Go.RowKit
set_option linter.unusedVariables false
theorem own:ownKnob Tryz.prog.godebug=none:=by kernel_rfl
set_option maxRecDepth 100000 in
theorem Tz (os:Os) (started:os.Started) (H:Type) (enc:TypeId×Value→H) :
    ReturnsInHanded {} Tryz.checked os 6 .any (Rows.mosaicKnownSpec.pre6 enc Tryz.prog Tryz.f6 Rows.mosaicKnownRow.domain false) (Rows.mosaicKnownSpec.post enc Tryz.prog Tryz.f6 false true false false):=by
  refine returnsInHanded_of_change (C:=Tryz.checked) own started (by kernel_rfl) Tryz.func6
    (ChangeSpec.witness6 (enc:=enc) (C:=Tryz.checked) false ⟨#[],#[],[]⟩ 8 (by kernel_rfl) (by kernel_rfl) (by kernel_rfl) (by kernel_rfl)) ?_
  intro W base args ds gs before hval0 hW hcnd _;have hval:∀(j:Nat) t v,Tryz.f6.params[j]? = some t→args[j]? = some v→Value.okWide Tryz.prog W .any base t v:=hval0;have hW':=hW;obtain ⟨p,q,hA0,hV,rfl,hfz,hnd⟩:=hW;have hA:DataW.TrodAll enc Tryz.prog W 0 (fun _=>true) true Tryz.f6.params.toList args.toList ds p:=hA0;rw [Tryz.params6] at hA hval;obtain ⟨hz0,rfl,rfl⟩:=trodAll_nil hA;obtain rfl:args=#[]:=by (cases args;simp at hz0;rw [hz0])
  obtain ⟨rfl,rfl⟩:=trodVars_none hV
  clear hA0 hval0
  obtain ⟨F,hp⟩:∃F,Dh F  = some true:=⟨2000,Lu⟩;refine (Jk F  true hp (Di W) W (A7 W)).mono fun e W' ⟨he,bel⟩=>?_;subst he;exact ⟨_,rfl,_,_,_,[],_,[],hW',trodAll_mk1 (shut_bool Tryz.underlying4 _),trodAll_mk0,rfl,bel.frame _,fun h=>by cases h⟩
theorem over:Rows.mosaicKnownRow.holds Tryz.pinned (OpenSpec.ofChange Rows.mosaicKnownSpec) :=
  OpenClaim.holds_of_wide 6 Tryz.f6 rfl rfl rfl rfl rfl rfl rfl ⟨rfl,rfl,rfl,rfl,rfl⟩ rfl rfl rfl rfl rfl (by kernel_rfl) Tryz.func6 (by kernel_rfl)
    (of_decide_eq_true (by kernel_rfl)) (by unfold Func.isWrapper;first|(rw [if_pos (by decide +kernel)];kernel_rfl)|(rw [if_neg (by decide +kernel)];exact ⟨rfl,rfl⟩))
    (fun os started H enc _=>Tz os started H enc)
end Go.Proofs.YtkbjbnkkfifbmaaGreat.mosaicKnown
namespace Go.Proofs.YtkbjbnkkfifbmaaGreat
theorem mosaicKnown_holds:Rows.MosaicKnownSaid:=mosaicKnown.over
#print axioms mosaicKnown_holds
end Go.Proofs.YtkbjbnkkfifbmaaGreat
