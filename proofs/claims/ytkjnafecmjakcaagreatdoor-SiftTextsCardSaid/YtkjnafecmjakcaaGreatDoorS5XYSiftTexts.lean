import Derived.Test.YtkjnafecmjakcaaGreatDoorS5XR
import Derived.Test.YtkjnafecmjakcaaGreatDoorTie
import Derived.Test.YtkjnafecmjakcaaGreatDoorCards
import Derived.Test.YtkjnafecmjakcaaGreatDoorS5XT
import Derived.Test.YtkjnafecmjakcaaGreatDoorS5XG
import Derived.Test.YtkjnafecmjakcaaGreatDoorS5XW17
import Derived.WalkKit
import Derived.ProofKit
import Derived.OpenShut
import Derived.ChangeOld
import Derived.Below
namespace Go.Proofs.YtkjnafecmjakcaaGreatDoor.siftTexts
open Go Go.Eng Go.ChangeShapes Go.WideShapes Go.ChangeAt Go.RowKit
set_option linter.unusedVariables false
theorem own:ownKnob Tryz.prog.godebug=none:=by kernel_rfl
theorem Tg:laidOutB Tryz.prog=true:=by kernel_rfl
set_option maxRecDepth 100000 in
theorem A4u (os:Os) (started:os.Started) (H:Type) (enc:TypeId×Value→H) :
    ReturnsInHanded {} Tryz.checked os 5 .any (fun w args=>(Rows.siftTextsSpec.pre enc Tryz.prog Tryz.f5 [] false w args∧laidMetH Tryz.prog LD w)∧sizedMet enc Tryz.prog Tryz.f5 (OpenSpec.ofChange Rows.siftTextsSpec) false w args) (Rows.siftTextsSpec.post enc Tryz.prog Tryz.f5 false true false false):=by
  refine returnsInHanded_of_change_and (C:=Tryz.checked) (X:=fun w _=>laidMetH Tryz.prog LD w) (fun _ _ _ hh h=>h.of_heap hh) own started (by kernel_rfl) Tryz.func5
    (ChangeSpec.witness_at (enc:=enc) (C:=Tryz.checked) (os:=os) (X:=fun w _=>laidMetH Tryz.prog LD w) false (We os) #[.slice none 0 0,.slice none 0 0,.int .u8 0,.int .u8 0,.slice none 0 0] 8 rfl (by kernel_rfl) (by kernel_rfl) (by kernel_rfl) (by kernel_rfl) (by kernel_rfl) (Vw os _)) ?_
  intro W base args ds gs before hval0 hW _ _ hL _;have hG:GlM (Ea W):=TabM.of_mem (A5p hL);have hval:∀(j:Nat) t v,Tryz.f5.params[j]? = some t→args[j]? = some v→Value.okWide Tryz.prog W .any base t v:=hval0;have hW':=hW;obtain ⟨p,q,hA0,hV,rfl,hfz,hnd⟩:=hW;have hA:DataW.TrodAll enc Tryz.prog W 0 (fun _=>true) true Tryz.f5.params.toList args.toList ds p:=hA0;rw [Tryz.params5] at hA hval;obtain ⟨v0,vs0,d0,ds0,p0,q0,hargs,rfl,rfl,h0,r0⟩:=trodAll_cons hA;obtain ⟨v1,vs1,d1,ds1,p1,q1,rfl,rfl,rfl,h1,r1⟩:=trodAll_cons r0;obtain ⟨v2,vs2,d2,ds2,p2,q2,rfl,rfl,rfl,h2,r2⟩:=trodAll_cons r1;obtain ⟨v3,vs3,d3,ds3,p3,q3,rfl,rfl,rfl,h3,r3⟩:=trodAll_cons r2;obtain ⟨v4,vs4,d4,ds4,p4,q4,rfl,rfl,rfl,h4,r4⟩:=trodAll_cons r3;obtain ⟨rfl,rfl,rfl⟩:=trodAll_nil r4;obtain rfl:args=#[v0,v1,v2,v3,v4]:=by cases args;simp_all
  obtain ⟨rfl,rfl⟩:=trodVars_none hV;have kk0:=h0;have lt0:∀x∈p0,x.block<W.heap.size:=by obtain ⟨m,hm⟩:=kk0;exact DataW.trod_lt m _ _ _ hm
  have hrd0:=Reads.of h0;obtain ⟨sa0,sl0,sc0,rfl⟩:=okWide_slice Tryz.underlying42 (hval 0 42 v0 rfl rfl);obtain ⟨x0,ad1_0,cap2_0,e0,hf0_0,ok0⟩:=A6i hrd0;simp [Value.cells] at e0;obtain ⟨rfl,rfl,rfl⟩:=e0;have kk1:=h1;have lt1:∀x∈p1,x.block<W.heap.size:=by obtain ⟨m,hm⟩:=kk1;exact DataW.trod_lt m _ _ _ hm
  have hrd1:=Reads.of h1;obtain ⟨sa1,sl1,sc1,rfl⟩:=okWide_slice Tryz.underlying42 (hval 1 42 v1 rfl rfl);obtain ⟨x1,ad1_1,cap2_1,e1,hf1_0,ok1⟩:=A6i hrd1;simp [Value.cells] at e1;obtain ⟨rfl,rfl,rfl⟩:=e1;have kk2:=h2;have lt2:∀x∈p2,x.block<W.heap.size:=by obtain ⟨m,hm⟩:=kk2;exact DataW.trod_lt m _ _ _ hm
  have hrd2:=Reads.of h2;obtain ⟨n2,rfl⟩:=okWide_int Tryz.underlying5 (hval 2 5 v2 rfl rfl);obtain ⟨x2,e2,ok2⟩:=rd5 hrd2;simp [Value.cells] at e2;have e2_:=e2.symm;subst e2_;have kk3:=h3;have lt3:∀x∈p3,x.block<W.heap.size:=by obtain ⟨m,hm⟩:=kk3;exact DataW.trod_lt m _ _ _ hm
  have hrd3:=Reads.of h3;obtain ⟨n3,rfl⟩:=okWide_int Tryz.underlying5 (hval 3 5 v3 rfl rfl);obtain ⟨x3,e3,ok3⟩:=rd5 hrd3;simp [Value.cells] at e3;have e3_:=e3.symm;subst e3_;have kk4:=h4;have lt4:∀x∈p4,x.block<W.heap.size:=by obtain ⟨m,hm⟩:=kk4;exact DataW.trod_lt m _ _ _ hm
  have hrd4:=Reads.of h4;obtain ⟨sa4,sl4,sc4,rfl⟩:=okWide_slice Tryz.underlying41 (hval 4 41 v4 rfl rfl);obtain ⟨x4,ad1_4,cap2_4,e4,hf4_0,ok4⟩:=A6z hrd4;simp [Value.cells] at e4;obtain ⟨rfl,rfl,rfl⟩:=e4
  clear hA0 hval0
  obtain ⟨F,hp⟩:∃F,He F x0 x1 x2 x3 x4=some true:=⟨100000,Wo (Wq ok0) (Wq ok1) (A4b ok2) (A4b ok3) (Wq ok4)⟩;refine (Sh F x0 x1 x2 x3 x4 true hp (Ea W) W (A4 W) hf0_0 hf1_0 hf4_0 hG).mono fun e W' ⟨he,bel⟩=>?_;subst he;exact ⟨_,rfl,_,_,_,[],_,[],hW',trodAll_mk1 (shut_bool Tryz.underlying4 _),(trodAll_cons_mk (Below.trod Tg (by kernel_rfl) (of_decide_eq_true (by kernel_rfl)) kk0 bel lt0) (trodAll_cons_mk (Below.trod Tg (by kernel_rfl) (of_decide_eq_true (by kernel_rfl)) kk1 bel lt1) (trodAll_cons_mk (Below.trod Tg (by kernel_rfl) (of_decide_eq_true (by kernel_rfl)) kk2 bel lt2) (trodAll_cons_mk (Below.trod Tg (by kernel_rfl) (of_decide_eq_true (by kernel_rfl)) kk3 bel lt3) (trodAll_cons_mk (Below.trod Tg (by kernel_rfl) (of_decide_eq_true (by kernel_rfl)) kk4 bel lt4) trodAll_mk0))))),rfl,bel.frame _,fun h=>by cases h⟩
theorem over:Rows.siftTextsRow.holds Tryz.pinned (OpenSpec.ofChange Rows.siftTextsSpec) :=
  OpenClaim.holds_of_wide 5 Tryz.f5 rfl rfl rfl rfl rfl rfl rfl ⟨rfl,rfl,rfl,rfl,rfl⟩ rfl rfl rfl rfl rfl (by kernel_rfl) Tryz.func5 (by kernel_rfl)
    (of_decide_eq_true (by kernel_rfl)) (by unfold Func.isWrapper;first|(rw [if_pos (by decide +kernel)];kernel_rfl)|(rw [if_neg (by decide +kernel)];exact ⟨rfl,rfl⟩))
    (fun os started H enc _=>A4u os started H enc)
end Go.Proofs.YtkjnafecmjakcaaGreatDoor.siftTexts
namespace Go.Proofs.YtkjnafecmjakcaaGreatDoor
theorem siftTexts_holds:Rows.SiftTextsCardSaid :=
  Claim7.holds_tied_plain_at .later [] [.data,.data,.data] true (true,"3de6c83bc9db30451920562dd0c4da14b1955e9370e7c5ef66bab2017ef72f53") true
    siftTexts.over (fun _ h=>by cases h) (by kernel_rfl) (fun _ h=>by cases h) siftTexts_row_tie rfl ⟨rfl,rfl⟩ (by kernel_rfl) rfl
    (fun f fn hf hfn=>by
      obtain rfl:f=5:=Option.some.inj ((show Tryz.prog.funcNamed "radome/radomelaw04.SiftTexts" = some 5 by kernel_rfl).symm.trans hf) |>.symm;obtain rfl:fn=Tryz.f5:=(Option.some.inj (Tryz.func5.symm.trans hfn)).symm;exact ⟨by kernel_rfl,fun j t ht=>by
        rw [Tryz.params5] at ht;have hm:=List.mem_of_getElem? (l:=[42,42,5,5,41]) (by simpa using ht);simp only [List.mem_cons,List.not_mem_nil,or_false] at hm;rcases hm with rfl|rfl|rfl|rfl|rfl
        · exact (show Tryz.prog.wantsStandIn 42=false by kernel_rfl)
        · exact (show Tryz.prog.wantsStandIn 42=false by kernel_rfl)
        · exact (show Tryz.prog.wantsStandIn 5=false by kernel_rfl)
        · exact (show Tryz.prog.wantsStandIn 5=false by kernel_rfl)
        · exact (show Tryz.prog.wantsStandIn 41=false by kernel_rfl)⟩)
    (by kernel_rfl)
#print axioms siftTexts_holds
end Go.Proofs.YtkjnafecmjakcaaGreatDoor
