import Derived.Test.YtkjnafecmjakcaaGreatDoorS11XR
import Derived.Test.YtkjnafecmjakcaaGreatDoorTie
import Derived.Test.YtkjnafecmjakcaaGreatDoorCards
import Derived.Test.YtkjnafecmjakcaaGreatDoorS11XT
import Derived.Test.YtkjnafecmjakcaaGreatDoorS11XG
import Derived.Test.YtkjnafecmjakcaaGreatDoorS11XW20
import Derived.WalkKit
import Derived.ProofKit
import Derived.OpenShut
import Derived.ChangeOld
import Derived.Below
namespace Go.Proofs.YtkjnafecmjakcaaGreatDoor.siftReasons
open Go Go.Eng Go.ChangeShapes Go.WideShapes Go.ChangeAt Go.RowKit
set_option linter.unusedVariables false
theorem own:ownKnob Tryz.prog.godebug=none:=by kernel_rfl
theorem Xo:laidOutB Tryz.prog=true:=by kernel_rfl
set_option maxRecDepth 100000 in
theorem A5m (os:Os) (started:os.Started) (H:Type) (enc:TypeId×Value→H) :
    ReturnsInHanded {} Tryz.checked os 11 .any (fun w args=>(Rows.siftReasonsSpec.pre enc Tryz.prog Tryz.f11 [] false w args∧laidMetH Tryz.prog LD w)∧sizedMet enc Tryz.prog Tryz.f11 (OpenSpec.ofChange Rows.siftReasonsSpec) false w args) (Rows.siftReasonsSpec.post enc Tryz.prog Tryz.f11 false true false false):=by
  refine returnsInHanded_of_change_and (C:=Tryz.checked) (X:=fun w _=>laidMetH Tryz.prog LD w) (fun _ _ _ hh h=>h.of_heap hh) own started (by kernel_rfl) Tryz.func11
    (ChangeSpec.witness_at (enc:=enc) (C:=Tryz.checked) (os:=os) (X:=fun w _=>laidMetH Tryz.prog LD w) false (X5 os) #[.slice none 0 0,.int .u8 0,.agg #[.int .u8 0,.int .u8 0,.int .u8 0,.slice none 0 0,.slice none 0 0,.slice none 0 0]] 8 rfl (by kernel_rfl) (by kernel_rfl) (by kernel_rfl) (by kernel_rfl) (by kernel_rfl) (Wo os _)) ?_
  intro W base args ds gs before hval0 hW _ _ hL _;have hG:GlM (Cp W):=TabM.of_mem (A68 hL);have hval:∀(j:Nat) t v,Tryz.f11.params[j]? = some t→args[j]? = some v→Value.okWide Tryz.prog W .any base t v:=hval0;have hW':=hW;obtain ⟨p,q,hA0,hV,rfl,hfz,hnd⟩:=hW;have hA:DataW.TrodAll enc Tryz.prog W 0 (fun _=>true) true Tryz.f11.params.toList args.toList ds p:=hA0;rw [Tryz.params11] at hA hval;obtain ⟨v0,vs0,d0,ds0,p0,q0,hargs,rfl,rfl,h0,r0⟩:=trodAll_cons hA;obtain ⟨v1,vs1,d1,ds1,p1,q1,rfl,rfl,rfl,h1,r1⟩:=trodAll_cons r0;obtain ⟨v2,vs2,d2,ds2,p2,q2,rfl,rfl,rfl,h2,r2⟩:=trodAll_cons r1;obtain ⟨rfl,rfl,rfl⟩:=trodAll_nil r2;obtain rfl:args=#[v0,v1,v2]:=by cases args;simp_all
  obtain ⟨rfl,rfl⟩:=trodVars_none hV;have kk0:=h0;have lt0:∀x∈p0,x.block<W.heap.size:=by obtain ⟨m,hm⟩:=kk0;exact DataW.trod_lt m _ _ _ hm
  have hrd0:=Reads.of h0;obtain ⟨sa0,sl0,sc0,rfl⟩:=okWide_slice Tryz.underlying42 (hval 0 42 v0 rfl rfl);obtain ⟨x0,ad1_0,cap2_0,e0,hf0_0,ok0⟩:=A75 hrd0;simp [Value.cells] at e0;obtain ⟨rfl,rfl,rfl⟩:=e0;have kk1:=h1;have lt1:∀x∈p1,x.block<W.heap.size:=by obtain ⟨m,hm⟩:=kk1;exact DataW.trod_lt m _ _ _ hm
  have hrd1:=Reads.of h1;obtain ⟨n1,rfl⟩:=okWide_int Tryz.underlying5 (hval 1 5 v1 rfl rfl);obtain ⟨x1,e1,ok1⟩:=rd5 hrd1;simp [Value.cells] at e1;have e1_:=e1.symm;subst e1_;have kk2:=h2;have lt2:∀x∈p2,x.block<W.heap.size:=by obtain ⟨m,hm⟩:=kk2;exact DataW.trod_lt m _ _ _ hm
  have hrd2:=Reads.of h2;obtain ⟨cs2,rfl,hc2⟩:=Reads.struct Tryz.underlying44 (hval 2 44 v2 rfl rfl);rw [hc2] at hrd2;obtain ⟨x2,ad1_2,cap2_2,ad3_2,cap4_2,ad5_2,cap6_2,rfl,hf2_0,hf2_1,hf2_2,ok2⟩:=A76 hrd2
  clear hA0 hval0
  obtain ⟨F,hp⟩:∃F,Gs F x0 x1 x2=some true:=⟨4000,Vt (Vq ok0) (A0i ok1) (A57 ok2)⟩;refine (S4 F x0 x1 x2 true hp (Cp W) W (A6 W) hf0_0 hf2_0 hf2_1 hf2_2 hG).mono fun e W' ⟨he,bel⟩=>?_;subst he;exact ⟨_,rfl,_,_,_,[],_,[],hW',trodAll_mk1 (shut_bool Tryz.underlying4 _),(trodAll_cons_mk (Below.trod Xo (by kernel_rfl) (of_decide_eq_true (by kernel_rfl)) kk0 bel lt0) (trodAll_cons_mk (Below.trod Xo (by kernel_rfl) (of_decide_eq_true (by kernel_rfl)) kk1 bel lt1) (trodAll_cons_mk (Below.trod Xo (by kernel_rfl) (of_decide_eq_true (by kernel_rfl)) kk2 bel lt2) trodAll_mk0))),rfl,bel.frame _,fun h=>by cases h⟩
theorem over:Rows.siftReasonsRow.holds Tryz.pinned (OpenSpec.ofChange Rows.siftReasonsSpec) :=
  OpenClaim.holds_of_wide 11 Tryz.f11 rfl rfl rfl rfl rfl rfl rfl ⟨rfl,rfl,rfl,rfl,rfl⟩ rfl rfl rfl rfl rfl (by kernel_rfl) Tryz.func11 (by kernel_rfl)
    (of_decide_eq_true (by kernel_rfl)) (by unfold Func.isWrapper;first|(rw [if_pos (by decide +kernel)];kernel_rfl)|(rw [if_neg (by decide +kernel)];exact ⟨rfl,rfl⟩))
    (fun os started H enc _=>A5m os started H enc)
end Go.Proofs.YtkjnafecmjakcaaGreatDoor.siftReasons
namespace Go.Proofs.YtkjnafecmjakcaaGreatDoor
theorem siftReasons_holds:Rows.SiftReasonsCardSaid :=
  Claim7.holds_tied_plain_at .later [] [.data,.data,.data] true (true,"3de6c83bc9db30451920562dd0c4da14b1955e9370e7c5ef66bab2017ef72f53") true
    siftReasons.over (fun _ h=>by cases h) (by kernel_rfl) (fun _ h=>by cases h) siftReasons_row_tie rfl ⟨rfl,rfl⟩ (by kernel_rfl) rfl
    (fun f fn hf hfn=>by
      obtain rfl:f=11:=Option.some.inj ((show Tryz.prog.funcNamed "radome/radomelaw04.SiftReasons" = some 11 by kernel_rfl).symm.trans hf) |>.symm;obtain rfl:fn=Tryz.f11:=(Option.some.inj (Tryz.func11.symm.trans hfn)).symm;exact ⟨by kernel_rfl,fun j t ht=>by
        rw [Tryz.params11] at ht;have hm:=List.mem_of_getElem? (l:=[42,5,44]) (by simpa using ht);simp only [List.mem_cons,List.not_mem_nil,or_false] at hm;rcases hm with rfl|rfl|rfl
        · exact (show Tryz.prog.wantsStandIn 42=false by kernel_rfl)
        · exact (show Tryz.prog.wantsStandIn 5=false by kernel_rfl)
        · exact (show Tryz.prog.wantsStandIn 44=false by kernel_rfl)⟩)
    (by kernel_rfl)
#print axioms siftReasons_holds
end Go.Proofs.YtkjnafecmjakcaaGreatDoor
