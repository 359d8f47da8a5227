import Derived.Test.YtfkeddejdahnhaaGreatDoorQ3XR
import Derived.Test.YtfkeddejdahnhaaGreatDoorTie
import Derived.Test.YtfkeddejdahnhaaGreatDoorCards
import Derived.Test.YtfkeddejdahnhaaGreatDoorQ3XT
import Derived.Test.YtfkeddejdahnhaaGreatDoorQ3XS
import Derived.Test.YtfkeddejdahnhaaGreatDoorQ3XW22
import Derived.WalkKit
import Derived.ProofKit
import Derived.OpenShut
import Derived.ChangeOld
import Derived.Below
namespace Go.Proofs.YtfkeddejdahnhaaGreatDoor.topSifted
open Go Go.Eng Go.ChangeShapes Go.WideShapes Go.ChangeAt Go.RowKit
set_option linter.unusedVariables false
theorem own:ownKnob Tryz.prog.godebug=none:=by kernel_rfl
theorem B4h:laidOutB Tryz.prog=true:=by kernel_rfl
set_option maxRecDepth 100000 in
theorem B7m (os:Os) (started:os.Started) (H:Type) (enc:TypeId×Value->H) :
    ReturnsInHanded {} Tryz.checked os 3 .any (λw args=>(Rows.topSiftedSpec.pre enc Tryz.prog Tryz.f3 [] false w args/\laidMetH Tryz.prog LD w)/\sizedMet enc Tryz.prog Tryz.f3 (OpenSpec.ofChange Rows.topSiftedSpec) false w args) (Rows.topSiftedSpec.post enc Tryz.prog Tryz.f3 false true false false):=by
  refine returnsInHanded_of_change_and (C:=Tryz.checked) (X:=λw _=>laidMetH Tryz.prog LD w) (λ_ _ _ hh h=>h.of_heap hh) own started (by kernel_rfl) Tryz.func3
    (ChangeSpec.witness_at (enc:=enc) (C:=Tryz.checked) (os:=os) (X:=λw _=>laidMetH Tryz.prog LD w) false (A2v os) #[.agg #[.int .u8 0,.int .u8 0,.int .u8 0,.int .u8 0,.int .u8 0,.int .u8 0,.int .i16 0,.slice none 0 0,.int .u16 0,.int .u8 0,.slice none 0 0,.slice none 0 0,.int .u8 0,.int .u16 0,.int .u8 0]] 8 rfl (by kernel_rfl) (by kernel_rfl) (by kernel_rfl) (by kernel_rfl) (by kernel_rfl) (A2d os _)) ?_
  intro W base args ds gs B0b hval0 hW _ _ hL _;have hG:GlM (C3 W):=TabM.of_mem (B8x hL);have hval:∀(j:Nat) t v,Tryz.f3.params[j]? = some t->args[j]? = some v->Value.okWide Tryz.prog W .any base t v:=hval0;have hW':=hW;obtain ⟨p,q,hA0,hV,rfl,hfz,hnd⟩:=hW;have hA:DataW.TrodAll enc Tryz.prog W 0 (λ_=>true) true Tryz.f3.params.toList args.toList ds p:=hA0;rw [Tryz.params3] at hA hval;obtain ⟨v0,vs0,d0,ds0,p0,q0,hargs,rfl,rfl,h0,r0⟩:=trodAll_cons hA;obtain ⟨rfl,rfl,rfl⟩:=trodAll_nil r0;obtain rfl:args=#[v0]:=by cases args;simp_all
  obtain ⟨rfl,rfl⟩:=trodVars_none hV;have kk0:=h0;have lt0:∀x∈p0,x.block<W.heap.size:=by obtain ⟨m,hm⟩:=kk0;exact DataW.trod_lt m _ _ _ hm
  have hrd0:=Reads.of h0;obtain ⟨cs0,rfl,hc0⟩:=Reads.struct Tryz.underlying30 (hval 0 30 v0 rfl rfl);rw [hc0] at hrd0;obtain ⟨x0,ad1_0,cap2_0,ad3_0,cap4_0,ad5_0,cap6_0,rfl,hf0_0,hf0_1,hf0_2,ok0⟩:=C0w hrd0
  clear hA0 hval0
  obtain ⟨F,hp⟩:∃F,Pu F x0=some true:=(have a:=ok0.1;⟨FS,A3b x0 ⟨⟨a.1,a.2.1,a.2.2.1,a.2.2.2.1,a.2.2.2.2.1,a.2.2.2.2.2.1,a.2.2.2.2.2.2.1,a.2.2.2.2.2.2.2.1,a.2.2.2.2.2.2.2.2.1,a.2.2.2.2.2.2.2.2.2.1,a.2.2.2.2.2.2.2.2.2.2.1,a.2.2.2.2.2.2.2.2.2.2.2⟩,⟨ok0.2.1,ok0.2.2.1,ok0.2.2.2⟩⟩⟩);refine (Zv F x0 true hp (C3 W) W (At W) hf0_0 hf0_1 hf0_2 hG).mono λe W' ⟨he,bel⟩=>?_;subst he;exact ⟨_,rfl,_,_,_,[],_,[],hW',trodAll_mk1 (shut_bool Tryz.underlying4 _),(trodAll_cons_mk (Below.trod B4h (by kernel_rfl) (of_decide_eq_true (by kernel_rfl)) kk0 bel lt0) trodAll_mk0),rfl,bel.frame _,λh=>by cases h⟩
theorem over:Rows.topSiftedRow.holds Tryz.pinned (OpenSpec.ofChange Rows.topSiftedSpec) :=
  OpenClaim.holds_of_wide 3 Tryz.f3 rfl rfl rfl rfl rfl rfl rfl ⟨rfl,rfl,rfl,rfl,rfl⟩ rfl rfl rfl rfl rfl (by kernel_rfl) Tryz.func3 (by kernel_rfl)
    (of_decide_eq_true (by kernel_rfl)) (by unfold Func.isWrapper;first|(rw [if_pos (by decide +kernel)];kernel_rfl)|(rw [if_neg (by decide +kernel)];exact ⟨rfl,rfl⟩))
    (λos started H enc _=>B7m os started H enc)
end Go.Proofs.YtfkeddejdahnhaaGreatDoor.topSifted
namespace Go.Proofs.YtfkeddejdahnhaaGreatDoor
theorem topSifted_holds:Rows.TopSiftedCardSaid :=
  Claim7.holds_tied_plain_at .later [] [.data,.data,.data] true (true,"8638e72301b4e80c40f26b49876c7fac62d30bf4826e77d6225c3e28bda71932") true
    topSifted.over (λ_ h=>by cases h) (by kernel_rfl) (λ_ h=>by cases h) topSifted_row_tie rfl ⟨rfl,rfl⟩ (by kernel_rfl) rfl
    (λf fn hf hfn=>by
      obtain rfl:f=3:=Option.some.inj ((show Tryz.prog.funcNamed "radome/radometop.TopSifted" = some 3 by kernel_rfl).symm.trans hf) |>.symm;obtain rfl:fn=Tryz.f3:=(Option.some.inj (Tryz.func3.symm.trans hfn)).symm;exact ⟨by kernel_rfl,λj t ht=>by
        rw [Tryz.params3] at ht;have hm:=List.mem_of_getElem? (l:=[30]) (by simpa using ht);simp only [List.mem_cons,List.not_mem_nil,or_false] at hm;subst hm
        · exact (show Tryz.prog.wantsStandIn 30=false by kernel_rfl)⟩)
    (by kernel_rfl)
#print axioms topSifted_holds
end Go.Proofs.YtfkeddejdahnhaaGreatDoor
