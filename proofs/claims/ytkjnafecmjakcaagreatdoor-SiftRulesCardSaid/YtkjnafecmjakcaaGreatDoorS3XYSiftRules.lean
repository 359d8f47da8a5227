import Derived.Test.YtkjnafecmjakcaaGreatDoorS3XR
import Derived.Test.YtkjnafecmjakcaaGreatDoorTie
import Derived.Test.YtkjnafecmjakcaaGreatDoorCards
import Derived.Test.YtkjnafecmjakcaaGreatDoorS3XT
import Derived.Test.YtkjnafecmjakcaaGreatDoorS3XG
import Derived.Test.YtkjnafecmjakcaaGreatDoorS3XW19
import Derived.WalkKit
import Derived.ProofKit
import Derived.OpenShut
import Derived.ChangeOld
import Derived.Below
namespace Go.Proofs.YtkjnafecmjakcaaGreatDoor.siftRules
open Go Go.Eng Go.ChangeShapes Go.WideShapes Go.ChangeAt Go.RowKit
set_option linter.unusedVariables false
theorem own:ownKnob Tryz.prog.godebug=none:=by kernel_rfl
theorem A4h:laidOutB Tryz.prog=true:=by kernel_rfl
set_option maxRecDepth 100000 in
theorem A5y (os:Os) (started:os.Started) (H:Type) (enc:TypeId×Value→H) :
    ReturnsInHanded {} Tryz.checked os 3 .any (fun w args=>(Rows.siftRulesSpec.pre enc Tryz.prog Tryz.f3 [] false w args∧laidMetH Tryz.prog LD w)∧sizedMet enc Tryz.prog Tryz.f3 (OpenSpec.ofChange Rows.siftRulesSpec) false w args) (Rows.siftRulesSpec.post enc Tryz.prog Tryz.f3 false true false false):=by
  refine returnsInHanded_of_change_and (C:=Tryz.checked) (X:=fun w _=>laidMetH Tryz.prog LD w) (fun _ _ _ hh h=>h.of_heap hh) own started (by kernel_rfl) Tryz.func3
    (ChangeSpec.witness_at (enc:=enc) (C:=Tryz.checked) (os:=os) (X:=fun w _=>laidMetH Tryz.prog LD w) false (Y1 os) #[.slice none 0 0] 8 rfl (by kernel_rfl) (by kernel_rfl) (by kernel_rfl) (by kernel_rfl) (by kernel_rfl) (Xc os _)) ?_
  intro W base args ds gs before hval0 hW _ _ hL _;have hG:GlM (Cv W):=TabM.of_mem (A6l hL);have hval:∀(j:Nat) t v,Tryz.f3.params[j]? = some t→args[j]? = some v→Value.okWide Tryz.prog W .any base t v:=hval0;have hW':=hW;obtain ⟨p,q,hA0,hV,rfl,hfz,hnd⟩:=hW;have hA:DataW.TrodAll enc Tryz.prog W 0 (fun _=>true) true Tryz.f3.params.toList args.toList ds p:=hA0;rw [Tryz.params3] at hA hval;obtain ⟨v0,vs0,d0,ds0,p0,q0,hargs,rfl,rfl,h0,r0⟩:=trodAll_cons hA;obtain ⟨rfl,rfl,rfl⟩:=trodAll_nil r0;obtain rfl:args=#[v0]:=by cases args;simp_all
  obtain ⟨rfl,rfl⟩:=trodVars_none hV;have kk0:=h0;have lt0:∀x∈p0,x.block<W.heap.size:=by obtain ⟨m,hm⟩:=kk0;exact DataW.trod_lt m _ _ _ hm
  have hrd0:=Reads.of h0;obtain ⟨sa0,sl0,sc0,rfl⟩:=okWide_slice Tryz.underlying22 (hval 0 22 v0 rfl rfl);obtain ⟨x0,ad1_0,cap2_0,css3_0,e0,hf0_0,ok0⟩:=A7w hrd0;simp [Value.cells] at e0;obtain ⟨rfl,rfl,rfl⟩:=e0
  clear hA0 hval0
  obtain ⟨F,hp⟩:∃F,Ht F x0=some true:=⟨4000,Yc x0⟩;refine (Ua F x0 true hp (Cv W) W (A3 W) hf0_0 hG).mono fun e W' ⟨he,bel⟩=>?_;subst he;exact ⟨_,rfl,_,_,_,[],_,[],hW',trodAll_mk1 (shut_bool Tryz.underlying4 _),(trodAll_cons_mk (Below.trod A4h (by kernel_rfl) (of_decide_eq_true (by kernel_rfl)) kk0 bel lt0) trodAll_mk0),rfl,bel.frame _,fun h=>by cases h⟩
theorem over:Rows.siftRulesRow.holds Tryz.pinned (OpenSpec.ofChange Rows.siftRulesSpec) :=
  OpenClaim.holds_of_wide 3 Tryz.f3 rfl rfl rfl rfl rfl rfl rfl ⟨rfl,rfl,rfl,rfl,rfl⟩ rfl rfl rfl rfl rfl (by kernel_rfl) Tryz.func3 (by kernel_rfl)
    (of_decide_eq_true (by kernel_rfl)) (by unfold Func.isWrapper;first|(rw [if_pos (by decide +kernel)];kernel_rfl)|(rw [if_neg (by decide +kernel)];exact ⟨rfl,rfl⟩))
    (fun os started H enc _=>A5y os started H enc)
end Go.Proofs.YtkjnafecmjakcaaGreatDoor.siftRules
namespace Go.Proofs.YtkjnafecmjakcaaGreatDoor
theorem siftRules_holds:Rows.SiftRulesCardSaid :=
  Claim7.holds_tied_plain_at .later [] [.data,.data,.data] true (true,"3de6c83bc9db30451920562dd0c4da14b1955e9370e7c5ef66bab2017ef72f53") true
    siftRules.over (fun _ h=>by cases h) (by kernel_rfl) (fun _ h=>by cases h) siftRules_row_tie rfl ⟨rfl,rfl⟩ (by kernel_rfl) rfl
    (fun f fn hf hfn=>by
      obtain rfl:f=3:=Option.some.inj ((show Tryz.prog.funcNamed "radome/radomelaw04.SiftRules" = some 3 by kernel_rfl).symm.trans hf) |>.symm;obtain rfl:fn=Tryz.f3:=(Option.some.inj (Tryz.func3.symm.trans hfn)).symm;exact ⟨by kernel_rfl,fun j t ht=>by
        rw [Tryz.params3] at ht;have hm:=List.mem_of_getElem? (l:=[22]) (by simpa using ht);simp only [List.mem_cons,List.not_mem_nil,or_false] at hm;subst hm
        · exact (show Tryz.prog.wantsStandIn 22=false by kernel_rfl)⟩)
    (by kernel_rfl)
#print axioms siftRules_holds
end Go.Proofs.YtkjnafecmjakcaaGreatDoor
