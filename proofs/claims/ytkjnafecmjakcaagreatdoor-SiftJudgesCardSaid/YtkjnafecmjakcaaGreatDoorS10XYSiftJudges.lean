import Derived.Test.YtkjnafecmjakcaaGreatDoorS10XR
import Derived.Test.YtkjnafecmjakcaaGreatDoorTie
import Derived.Test.YtkjnafecmjakcaaGreatDoorCards
import Derived.Test.YtkjnafecmjakcaaGreatDoorS10XT
import Derived.Test.YtkjnafecmjakcaaGreatDoorS10XG
import Derived.Test.YtkjnafecmjakcaaGreatDoorS10XW24
import Derived.WalkKit
import Derived.ProofKit
import Derived.OpenShut
import Derived.ChangeOld
import Derived.Below
namespace Go.Proofs.YtkjnafecmjakcaaGreatDoor.siftJudges
open Go Go.Eng Go.ChangeShapes Go.WideShapes Go.ChangeAt Go.RowKit
set_option linter.unusedVariables false
theorem own:ownKnob Tryz.prog.godebug=none:=by kernel_rfl
theorem A6t:laidOutB Tryz.prog=true:=by kernel_rfl
set_option maxRecDepth 100000 in
theorem B3r (os:Os) (started:os.Started) (H:Type) (enc:TypeId×Value->H) :
    ReturnsInHanded {} Tryz.checked os 10 .any (λw args=>(Rows.siftJudgesSpec.pre enc Tryz.prog Tryz.f10 [] false w args/\laidMetH Tryz.prog LD w)/\sizedMet enc Tryz.prog Tryz.f10 (OpenSpec.ofChange Rows.siftJudgesSpec) false w args) (Rows.siftJudgesSpec.post enc Tryz.prog Tryz.f10 false true false false):=by
  refine returnsInHanded_of_change_and (C:=Tryz.checked) (X:=λw _=>laidMetH Tryz.prog LD w) (λ_ _ _ hh h=>h.of_heap hh) own started (by kernel_rfl) Tryz.func10
    (ChangeSpec.witness_at (enc:=enc) (C:=Tryz.checked) (os:=os) (X:=λw _=>laidMetH Tryz.prog LD w) false (A2r os) #[.slice none 0 0,.agg #[.string ByteArray.empty,.int .i64 0,.int .i64 0,.int .i64 0,.int .i64 0,.int .i64 0,.int .i64 0,.int .i64 0,.int .i64 0,.int .i64 0,.slice none 0 0]] 8 rfl (by kernel_rfl) (by kernel_rfl) (by kernel_rfl) (by kernel_rfl) (by kernel_rfl) (A21 os _)) ?_
  intro W base args ds gs before hval0 hW _ _ hL _;have hG:GlM (D9 W):=TabM.of_mem (B4j hL);have hval:∀(j:Nat) t v,Tryz.f10.params[j]? = some t->args[j]? = some v->Value.okWide Tryz.prog W .any base t v:=hval0;have hW':=hW;obtain ⟨p,q,hA0,hV,rfl,hfz,hnd⟩:=hW;have hA:DataW.TrodAll enc Tryz.prog W 0 (λ_=>true) true Tryz.f10.params.toList args.toList ds p:=hA0;rw [Tryz.params10] at hA hval;obtain ⟨v0,vs0,d0,ds0,p0,q0,hargs,rfl,rfl,h0,r0⟩:=trodAll_cons hA;obtain ⟨v1,vs1,d1,ds1,p1,q1,rfl,rfl,rfl,h1,r1⟩:=trodAll_cons r0;obtain ⟨rfl,rfl,rfl⟩:=trodAll_nil r1;obtain rfl:args=#[v0,v1]:=by cases args;simp_all
  obtain ⟨rfl,rfl⟩:=trodVars_none hV;have kk0:=h0;have lt0:∀x∈p0,x.block<W.heap.size:=by obtain ⟨m,hm⟩:=kk0;exact DataW.trod_lt m _ _ _ hm
  have hrd0:=Reads.of h0;obtain ⟨sa0,sl0,sc0,rfl⟩:=okWide_slice Tryz.underlying22 (hval 0 22 v0 rfl rfl);obtain ⟨x0,ad1_0,cap2_0,css3_0,e0,hf0_0,ok0⟩:=B5w hrd0;simp [Value.cells] at e0;obtain ⟨rfl,rfl,rfl⟩:=e0;have kk1:=h1;have lt1:∀x∈p1,x.block<W.heap.size:=by obtain ⟨m,hm⟩:=kk1;exact DataW.trod_lt m _ _ _ hm
  have hrd1:=Reads.of h1;obtain ⟨cs1,rfl,hc1⟩:=Reads.struct Tryz.underlying50 (hval 1 50 v1 rfl rfl);rw [hc1] at hrd1;obtain ⟨x1,ad1_1,cap2_1,css3_1,rfl,hf1_0,ok1⟩:=B5z hrd1
  clear hA0 hval0
  obtain ⟨F,hp⟩:∃F,Ka F x0 x1=some true:=⟨_,A1z x0 x1 ok1.2.2.2.1⟩;refine (Xj F x0 x1 true hp (D9 W) W (Ax W) hf0_0 hf1_0 hG).mono λe W' ⟨he,bel⟩=>?_;subst he;exact ⟨_,rfl,_,_,_,[],_,[],hW',trodAll_mk1 (shut_bool Tryz.underlying4 _),(trodAll_cons_mk (Below.trod A6t (by kernel_rfl) (of_decide_eq_true (by kernel_rfl)) kk0 bel lt0) (trodAll_cons_mk (Below.trod A6t (by kernel_rfl) (of_decide_eq_true (by kernel_rfl)) kk1 bel lt1) trodAll_mk0)),rfl,bel.frame _,λh=>by cases h⟩
theorem over:Rows.siftJudgesRow.holds Tryz.pinned (OpenSpec.ofChange Rows.siftJudgesSpec) :=
  OpenClaim.holds_of_wide 10 Tryz.f10 rfl rfl rfl rfl rfl rfl rfl ⟨rfl,rfl,rfl,rfl,rfl⟩ rfl rfl rfl rfl rfl (by kernel_rfl) Tryz.func10 (by kernel_rfl)
    (of_decide_eq_true (by kernel_rfl)) (by unfold Func.isWrapper;first|(rw [if_pos (by decide +kernel)];kernel_rfl)|(rw [if_neg (by decide +kernel)];exact ⟨rfl,rfl⟩))
    (λos started H enc _=>B3r os started H enc)
end Go.Proofs.YtkjnafecmjakcaaGreatDoor.siftJudges
namespace Go.Proofs.YtkjnafecmjakcaaGreatDoor
theorem siftJudges_holds:Rows.SiftJudgesCardSaid :=
  Claim7.holds_tied_plain_at .later [] [.data,.data,.data] true (true,"3de6c83bc9db30451920562dd0c4da14b1955e9370e7c5ef66bab2017ef72f53") true
    siftJudges.over (λ_ h=>by cases h) (by kernel_rfl) (λ_ h=>by cases h) siftJudges_row_tie rfl ⟨rfl,rfl⟩ (by kernel_rfl) rfl
    (λf fn hf hfn=>by
      obtain rfl:f=10:=Option.some.inj ((show Tryz.prog.funcNamed "radome/radomelaw04.SiftJudges" = some 10 by kernel_rfl).symm.trans hf) |>.symm;obtain rfl:fn=Tryz.f10:=(Option.some.inj (Tryz.func10.symm.trans hfn)).symm;exact ⟨by kernel_rfl,λj t ht=>by
        rw [Tryz.params10] at ht;have hm:=List.mem_of_getElem? (l:=[22,50]) (by simpa using ht);simp only [List.mem_cons,List.not_mem_nil,or_false] at hm;rcases hm with rfl|rfl
        · exact (show Tryz.prog.wantsStandIn 22=false by kernel_rfl)
        · exact (show Tryz.prog.wantsStandIn 50=false by kernel_rfl)⟩)
    (by kernel_rfl)
#print axioms siftJudges_holds
end Go.Proofs.YtkjnafecmjakcaaGreatDoor
