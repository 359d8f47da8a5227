import Derived.Test.YtkjnafecmjakcaaGreatDoorS8XR
import Derived.Test.YtkjnafecmjakcaaGreatDoorTie
import Derived.Test.YtkjnafecmjakcaaGreatDoorCards
import Derived.Test.YtkjnafecmjakcaaGreatDoorS8XT
import Derived.Test.YtkjnafecmjakcaaGreatDoorS8XG
import Derived.Test.YtkjnafecmjakcaaGreatDoorS8XW21
import Derived.WalkKit
import Derived.ProofKit
import Derived.OpenShut
import Derived.ChangeOld
import Derived.Below
namespace Go.Proofs.YtkjnafecmjakcaaGreatDoor.siftTests
open Go Go.Eng Go.ChangeShapes Go.WideShapes Go.ChangeAt Go.RowKit
set_option linter.unusedVariables false
theorem own:ownKnob Tryz.prog.godebug=none:=by kernel_rfl
theorem Yo:laidOutB Tryz.prog=true:=by kernel_rfl
set_option maxRecDepth 100000 in
theorem B04 (os:Os) (started:os.Started) (H:Type) (enc:TypeId×Value->H) :
    ReturnsInHanded {} Tryz.checked os 8 .any (λw args=>(Rows.siftTestsSpec.pre enc Tryz.prog Tryz.f8 [] false w args/\laidMetH Tryz.prog LD w)/\sizedMet enc Tryz.prog Tryz.f8 (OpenSpec.ofChange Rows.siftTestsSpec) false w args) (Rows.siftTestsSpec.post enc Tryz.prog Tryz.f8 false true false false):=by
  refine returnsInHanded_of_change_and (C:=Tryz.checked) (X:=λw _=>laidMetH Tryz.prog LD w) (λ_ _ _ hh h=>h.of_heap hh) own started (by kernel_rfl) Tryz.func8
    (ChangeSpec.witness_at (enc:=enc) (C:=Tryz.checked) (os:=os) (X:=λw _=>laidMetH Tryz.prog LD w) false (A0h os) #[.agg #[.int .i64 0,.int .i64 0,.int .i64 0,.int .i64 0,.slice none 0 0],.agg #[.string ByteArray.empty,.int .i64 0,.int .i64 0,.int .i64 0,.int .i64 0,.int .i64 0,.int .i64 0,.int .i64 0,.int .i64 0,.int .i64 0,.slice none 0 0],.int .i64 0,.int .i64 0] 8 rfl (by kernel_rfl) (by kernel_rfl) (by kernel_rfl) (by kernel_rfl) (by kernel_rfl) (Zq os _)) ?_
  intro W base args ds gs before hval0 hW _ _ hL _;have hG:GlM (D1 W):=TabM.of_mem (B0r hL);have hval:∀(j:Nat) t v,Tryz.f8.params[j]? = some t->args[j]? = some v->Value.okWide Tryz.prog W .any base t v:=hval0;have hW':=hW;obtain ⟨p,q,hA0,hV,rfl,hfz,hnd⟩:=hW;have hA:DataW.TrodAll enc Tryz.prog W 0 (λ_=>true) true Tryz.f8.params.toList args.toList ds p:=hA0;rw [Tryz.params8] at hA hval;obtain ⟨v0,vs0,d0,ds0,p0,q0,hargs,rfl,rfl,h0,r0⟩:=trodAll_cons hA;obtain ⟨v1,vs1,d1,ds1,p1,q1,rfl,rfl,rfl,h1,r1⟩:=trodAll_cons r0;obtain ⟨v2,vs2,d2,ds2,p2,q2,rfl,rfl,rfl,h2,r2⟩:=trodAll_cons r1;obtain ⟨v3,vs3,d3,ds3,p3,q3,rfl,rfl,rfl,h3,r3⟩:=trodAll_cons r2;obtain ⟨rfl,rfl,rfl⟩:=trodAll_nil r3;obtain rfl:args=#[v0,v1,v2,v3]:=by cases args;simp_all
  obtain ⟨rfl,rfl⟩:=trodVars_none hV;have kk0:=h0;have lt0:∀x∈p0,x.block<W.heap.size:=by obtain ⟨m,hm⟩:=kk0;exact DataW.trod_lt m _ _ _ hm
  have hrd0:=Reads.of h0;obtain ⟨cs0,rfl,hc0⟩:=Reads.struct Tryz.underlying88 (hval 0 88 v0 rfl rfl);rw [hc0] at hrd0;obtain ⟨x0,ad1_0,cap2_0,css3_0,rfl,hf0_0,ok0⟩:=B27 hrd0;have kk1:=h1;have lt1:∀x∈p1,x.block<W.heap.size:=by obtain ⟨m,hm⟩:=kk1;exact DataW.trod_lt m _ _ _ hm
  have hrd1:=Reads.of h1;obtain ⟨cs1,rfl,hc1⟩:=Reads.struct Tryz.underlying50 (hval 1 50 v1 rfl rfl);rw [hc1] at hrd1;obtain ⟨x1,ad1_1,cap2_1,css3_1,rfl,hf1_0,ok1⟩:=B21 hrd1;have kk2:=h2;have lt2:∀x∈p2,x.block<W.heap.size:=by obtain ⟨m,hm⟩:=kk2;exact DataW.trod_lt m _ _ _ hm
  have hrd2:=Reads.of h2;obtain ⟨n2,rfl⟩:=okWide_int Tryz.underlying3 (hval 2 3 v2 rfl rfl);obtain ⟨x2,e2,ok2⟩:=rd3 hrd2;simp [Value.cells] at e2;have e2_:=e2.symm;subst e2_;have kk3:=h3;have lt3:∀x∈p3,x.block<W.heap.size:=by obtain ⟨m,hm⟩:=kk3;exact DataW.trod_lt m _ _ _ hm
  have hrd3:=Reads.of h3;obtain ⟨n3,rfl⟩:=okWide_int Tryz.underlying3 (hval 3 3 v3 rfl rfl);obtain ⟨x3,e3,ok3⟩:=rd3 hrd3;simp [Value.cells] at e3;have e3_:=e3.symm;subst e3_
  clear hA0 hval0
  obtain ⟨F,hp⟩:∃F,Kn F x0 x1 x2 x3=some true:=⟨_,A0r x0 x1 x2 x3 ok1.2.2.2.1⟩;refine (Vj F x0 x1 x2 x3 true hp (D1 W) W (A7 W) hf0_0 hf1_0 hG).mono λe W' ⟨he,bel⟩=>?_;subst he;exact ⟨_,rfl,_,_,_,[],_,[],hW',trodAll_mk1 (shut_bool Tryz.underlying4 _),(trodAll_cons_mk (Below.trod Yo (by kernel_rfl) (of_decide_eq_true (by kernel_rfl)) kk0 bel lt0) (trodAll_cons_mk (Below.trod Yo (by kernel_rfl) (of_decide_eq_true (by kernel_rfl)) kk1 bel lt1) (trodAll_cons_mk (Below.trod Yo (by kernel_rfl) (of_decide_eq_true (by kernel_rfl)) kk2 bel lt2) (trodAll_cons_mk (Below.trod Yo (by kernel_rfl) (of_decide_eq_true (by kernel_rfl)) kk3 bel lt3) trodAll_mk0)))),rfl,bel.frame _,λh=>by cases h⟩
theorem over:Rows.siftTestsRow.holds Tryz.pinned (OpenSpec.ofChange Rows.siftTestsSpec) :=
  OpenClaim.holds_of_wide 8 Tryz.f8 rfl rfl rfl rfl rfl rfl rfl ⟨rfl,rfl,rfl,rfl,rfl⟩ rfl rfl rfl rfl rfl (by kernel_rfl) Tryz.func8 (by kernel_rfl)
    (of_decide_eq_true (by kernel_rfl)) (by unfold Func.isWrapper;first|(rw [if_pos (by decide +kernel)];kernel_rfl)|(rw [if_neg (by decide +kernel)];exact ⟨rfl,rfl⟩))
    (λos started H enc _=>B04 os started H enc)
end Go.Proofs.YtkjnafecmjakcaaGreatDoor.siftTests
namespace Go.Proofs.YtkjnafecmjakcaaGreatDoor
theorem siftTests_holds:Rows.SiftTestsCardSaid :=
  Claim7.holds_tied_plain_at .later [] [.data,.data,.data] true (true,"3de6c83bc9db30451920562dd0c4da14b1955e9370e7c5ef66bab2017ef72f53") true
    siftTests.over (λ_ h=>by cases h) (by kernel_rfl) (λ_ h=>by cases h) siftTests_row_tie rfl ⟨rfl,rfl⟩ (by kernel_rfl) rfl
    (λf fn hf hfn=>by
      obtain rfl:f=8:=Option.some.inj ((show Tryz.prog.funcNamed "radome/radomelaw04.SiftTests" = some 8 by kernel_rfl).symm.trans hf) |>.symm;obtain rfl:fn=Tryz.f8:=(Option.some.inj (Tryz.func8.symm.trans hfn)).symm;exact ⟨by kernel_rfl,λj t ht=>by
        rw [Tryz.params8] at ht;have hm:=List.mem_of_getElem? (l:=[88,50,3,3]) (by simpa using ht);simp only [List.mem_cons,List.not_mem_nil,or_false] at hm;rcases hm with rfl|rfl|rfl|rfl
        · exact (show Tryz.prog.wantsStandIn 88=false by kernel_rfl)
        · exact (show Tryz.prog.wantsStandIn 50=false by kernel_rfl)
        · exact (show Tryz.prog.wantsStandIn 3=false by kernel_rfl)
        · exact (show Tryz.prog.wantsStandIn 3=false by kernel_rfl)⟩)
    (by kernel_rfl)
#print axioms siftTests_holds
end Go.Proofs.YtkjnafecmjakcaaGreatDoor
