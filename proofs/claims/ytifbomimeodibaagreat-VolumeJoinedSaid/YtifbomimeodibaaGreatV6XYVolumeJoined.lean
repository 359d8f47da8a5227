import Derived.Test.YtifbomimeodibaaGreatRows
import Derived.Test.YtifbomimeodibaaGreatV6XR
import Derived.Test.YtifbomimeodibaaGreatV6XW15
import Derived.WalkKit
import Derived.ProofKit
import Derived.OpenShut
import Derived.ChangeOld
import Derived.Below
namespace Go.Proofs.YtifbomimeodibaaGreat.volumeJoined
open Go Go.Eng Go.ChangeShapes Go.WideShapes Go.ChangeAt Go.RowKit
set_option linter.unusedVariables false
theorem own:ownKnob Tryz.prog.godebug=none:=by kernel_rfl
theorem V8:laidOutB Tryz.prog=true:=by kernel_rfl
set_option maxRecDepth 100000 in
theorem A37 (os:Os) (started:os.Started) (H:Type) (enc:TypeId×Value→H) :
    ReturnsInHanded {} Tryz.checked os 6 .any (Rows.volumeJoinedSpec.pre6 enc Tryz.prog Tryz.f6 Rows.volumeJoinedRow.domain false) (Rows.volumeJoinedSpec.post enc Tryz.prog Tryz.f6 false true false false):=by
  refine returnsInHanded_of_change (C:=Tryz.checked) own started (by kernel_rfl) Tryz.func6
    (ChangeSpec.witness6 (enc:=enc) (C:=Tryz.checked) false ⟨#[],#[.slice none 0 0,.slice none 0 0,.slice none 0 0],[]⟩ 8 (by kernel_rfl) (by kernel_rfl) (by kernel_rfl) (by kernel_rfl)) ?_
  intro W base args ds gs before hval0 hW hcnd _;have hval:∀(j:Nat) t v,Tryz.f6.params[j]? = some t→args[j]? = some v→Value.okWide Tryz.prog W .any base t v:=hval0;have hW':=hW;obtain ⟨p,q,hA0,hV,rfl,hfz,hnd⟩:=hW;have hA:DataW.TrodAll enc Tryz.prog W 0 (fun _=>true) true Tryz.f6.params.toList args.toList ds p:=hA0;rw [Tryz.params6] at hA hval;obtain ⟨v0,vs0,d0,ds0,p0,q0,hargs,rfl,rfl,h0,r0⟩:=trodAll_cons hA;obtain ⟨v1,vs1,d1,ds1,p1,q1,rfl,rfl,rfl,h1,r1⟩:=trodAll_cons r0;obtain ⟨v2,vs2,d2,ds2,p2,q2,rfl,rfl,rfl,h2,r2⟩:=trodAll_cons r1;obtain ⟨rfl,rfl,rfl⟩:=trodAll_nil r2;obtain rfl:args=#[v0,v1,v2]:=by cases args;simp_all
  obtain ⟨rfl,rfl⟩:=trodVars_none hV;have kk0:=h0;have lt0:∀x∈p0,x.block<W.heap.size:=by obtain ⟨m,hm⟩:=kk0;exact DataW.trod_lt m _ _ _ hm
  have hrd0:=Reads.of h0;obtain ⟨sa0,sl0,sc0,rfl⟩:=okWide_slice Tryz.underlying59 (hval 0 59 v0 rfl rfl);obtain ⟨x0,ad1_0,cap2_0,css3_0,e0,hf0_0,ok0⟩:=A3p hrd0;simp [Value.cells] at e0;obtain ⟨rfl,rfl,rfl⟩:=e0;have kk1:=h1;have lt1:∀x∈p1,x.block<W.heap.size:=by obtain ⟨m,hm⟩:=kk1;exact DataW.trod_lt m _ _ _ hm
  have hrd1:=Reads.of h1;obtain ⟨sa1,sl1,sc1,rfl⟩:=okWide_slice Tryz.underlying59 (hval 1 59 v1 rfl rfl);obtain ⟨x1,ad1_1,cap2_1,css3_1,e1,hf1_0,ok1⟩:=A3p hrd1;simp [Value.cells] at e1;obtain ⟨rfl,rfl,rfl⟩:=e1;have kk2:=h2;have lt2:∀x∈p2,x.block<W.heap.size:=by obtain ⟨m,hm⟩:=kk2;exact DataW.trod_lt m _ _ _ hm
  have hrd2:=Reads.of h2;obtain ⟨sa2,sl2,sc2,rfl⟩:=okWide_slice Tryz.underlying59 (hval 2 59 v2 rfl rfl);obtain ⟨x2,ad1_2,cap2_2,css3_2,e2,hf2_0,ok2⟩:=A3p hrd2;simp [Value.cells] at e2;obtain ⟨rfl,rfl,rfl⟩:=e2
  clear hA0 hval0
  obtain ⟨F,hp⟩:∃F,F9 F x0 x1 x2=some true:=⟨FV,Sh x0 x1 x2 ok0 ok1 ok2⟩;refine (Nn F x0 x1 x2 true hp (Bb W) W (A4 W) hf0_0 hf1_0 hf2_0).mono fun e W' ⟨he,bel⟩=>?_;subst he;exact ⟨_,rfl,_,_,_,[],_,[],hW',trodAll_mk1 (shut_bool Tryz.underlying4 _),(trodAll_cons_mk (Below.trod V8 (by kernel_rfl) (of_decide_eq_true (by kernel_rfl)) kk0 bel lt0) (trodAll_cons_mk (Below.trod V8 (by kernel_rfl) (of_decide_eq_true (by kernel_rfl)) kk1 bel lt1) (trodAll_cons_mk (Below.trod V8 (by kernel_rfl) (of_decide_eq_true (by kernel_rfl)) kk2 bel lt2) trodAll_mk0))),rfl,bel.frame _,fun h=>by cases h⟩
theorem over:Rows.volumeJoinedRow.holds Tryz.pinned (OpenSpec.ofChange Rows.volumeJoinedSpec) :=
  OpenClaim.holds_of_wide 6 Tryz.f6 rfl rfl rfl rfl rfl rfl rfl ⟨rfl,rfl,rfl,rfl,rfl⟩ rfl rfl rfl rfl rfl (by kernel_rfl) Tryz.func6 (by kernel_rfl)
    (of_decide_eq_true (by kernel_rfl)) (by unfold Func.isWrapper;first|(rw [if_pos (by decide +kernel)];kernel_rfl)|(rw [if_neg (by decide +kernel)];exact ⟨rfl,rfl⟩))
    (fun os started H enc _=>A37 os started H enc)
end Go.Proofs.YtifbomimeodibaaGreat.volumeJoined
namespace Go.Proofs.YtifbomimeodibaaGreat
theorem volumeJoined_holds:Rows.VolumeJoinedSaid:=volumeJoined.over
#print axioms volumeJoined_holds
end Go.Proofs.YtifbomimeodibaaGreat
