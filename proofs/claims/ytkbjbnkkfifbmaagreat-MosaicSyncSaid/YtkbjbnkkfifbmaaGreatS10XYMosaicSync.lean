import Derived.Test.YtkbjbnkkfifbmaaGreatRows
import Derived.Test.YtkbjbnkkfifbmaaGreatS10XR
import Derived.Test.YtkbjbnkkfifbmaaGreatS10XG
import Derived.Test.YtkbjbnkkfifbmaaGreatS10XW13
import Derived.WalkKit
import Derived.ProofKit
import Derived.OpenShut
import Derived.ChangeOld
import Derived.Below
namespace Go.Proofs.YtkbjbnkkfifbmaaGreat.mosaicSync
open Go Go.Eng Go.ChangeShapes Go.WideShapes Go.ChangeAt Go.RowKit
set_option linter.unusedVariables false
theorem own:ownKnob Tryz.prog.godebug=none:=by kernel_rfl
theorem Ph:laidOutB Tryz.prog=true:=by kernel_rfl
set_option maxRecDepth 100000 in
theorem A4d (os:Os) (started:os.Started) (H:Type) (enc:TypeId×Value→H) :
    ReturnsInHanded {} Tryz.checked os 10 .any (Rows.mosaicSyncSpec.pre6 enc Tryz.prog Tryz.f10 Rows.mosaicSyncRow.domain false) (Rows.mosaicSyncSpec.post enc Tryz.prog Tryz.f10 false true false false):=by
  refine returnsInHanded_of_change (C:=Tryz.checked) own started (by kernel_rfl) Tryz.func10
    (ChangeSpec.witness6 (enc:=enc) (C:=Tryz.checked) false ⟨#[],#[.agg #[.int .u8 0,.int .u8 0,.int .i16 0,.int .i16 0,.int .u16 0,.int .u8 0,.int .u8 0,.int .u8 0,.int .u16 0,.int .u16 0,.int .i16 0,.int .i16 0,.int .u16 0,.int .u8 0,.int .u8 0,.int .u8 0,.int .u16 0,.int .u16 0,.int .i16 0,.int .i16 0,.int .u16 0,.int .u8 0,.int .u8 0,.int .u8 0,.int .u16 0,.int .u16 0,.int .u8 0,.int .u16 0],.slice none 0 0,.slice none 0 0,.slice none 0 0,.int .u16 0,.int .u8 0],[]⟩ 8 (by kernel_rfl) (by kernel_rfl) (by kernel_rfl) (by kernel_rfl)) ?_
  intro W base args ds gs before hval0 hW hcnd _;have hval:∀(j:Nat) t v,Tryz.f10.params[j]? = some t→args[j]? = some v→Value.okWide Tryz.prog W .any base t v:=hval0;have hW':=hW;obtain ⟨p,q,hA0,hV,rfl,hfz,hnd⟩:=hW;have hA:DataW.TrodAll enc Tryz.prog W 0 (fun _=>true) true Tryz.f10.params.toList args.toList ds p:=hA0;rw [Tryz.params10] at hA hval;obtain ⟨v0,vs0,d0,ds0,p0,q0,hargs,rfl,rfl,h0,r0⟩:=trodAll_cons hA;obtain ⟨v1,vs1,d1,ds1,p1,q1,rfl,rfl,rfl,h1,r1⟩:=trodAll_cons r0;obtain ⟨v2,vs2,d2,ds2,p2,q2,rfl,rfl,rfl,h2,r2⟩:=trodAll_cons r1;obtain ⟨v3,vs3,d3,ds3,p3,q3,rfl,rfl,rfl,h3,r3⟩:=trodAll_cons r2;obtain ⟨v4,vs4,d4,ds4,p4,q4,rfl,rfl,rfl,h4,r4⟩:=trodAll_cons r3;obtain ⟨v5,vs5,d5,ds5,p5,q5,rfl,rfl,rfl,h5,r5⟩:=trodAll_cons r4;obtain ⟨rfl,rfl,rfl⟩:=trodAll_nil r5;obtain rfl:args=#[v0,v1,v2,v3,v4,v5]:=by cases args;simp_all
  obtain ⟨rfl,rfl⟩:=trodVars_none hV;have kk0:=h0;have lt0:∀x∈p0,x.block<W.heap.size:=by obtain ⟨m,hm⟩:=kk0;exact DataW.trod_lt m _ _ _ hm
  have hrd0:=Reads.of h0;obtain ⟨cs0,rfl,hc0⟩:=Reads.struct Tryz.underlying28 (hval 0 28 v0 rfl rfl);rw [hc0] at hrd0;obtain ⟨x0,rfl,ok0⟩:=A71 hrd0;have kk1:=h1;have lt1:∀x∈p1,x.block<W.heap.size:=by obtain ⟨m,hm⟩:=kk1;exact DataW.trod_lt m _ _ _ hm
  have hrd1:=Reads.of h1;obtain ⟨sa1,sl1,sc1,rfl⟩:=okWide_slice Tryz.underlying29 (hval 1 29 v1 rfl rfl);obtain ⟨x1,ad1_1,cap2_1,css3_1,e1,hf1_0,ok1⟩:=A72 hrd1;simp [Value.cells] at e1;obtain ⟨rfl,rfl,rfl⟩:=e1;have kk2:=h2;have lt2:∀x∈p2,x.block<W.heap.size:=by obtain ⟨m,hm⟩:=kk2;exact DataW.trod_lt m _ _ _ hm
  have hrd2:=Reads.of h2;obtain ⟨sa2,sl2,sc2,rfl⟩:=okWide_slice Tryz.underlying80 (hval 2 80 v2 rfl rfl);obtain ⟨x2,ad1_2,cap2_2,e2,hf2_0,ok2⟩:=A74 hrd2;simp [Value.cells] at e2;obtain ⟨rfl,rfl,rfl⟩:=e2;have kk3:=h3;have lt3:∀x∈p3,x.block<W.heap.size:=by obtain ⟨m,hm⟩:=kk3;exact DataW.trod_lt m _ _ _ hm
  have hrd3:=Reads.of h3;obtain ⟨sa3,sl3,sc3,rfl⟩:=okWide_slice Tryz.underlying50 (hval 3 50 v3 rfl rfl);obtain ⟨x3,ad1_3,cap2_3,e3,hf3_0,ok3⟩:=A6a hrd3;simp [Value.cells] at e3;obtain ⟨rfl,rfl,rfl⟩:=e3;have kk4:=h4;have lt4:∀x∈p4,x.block<W.heap.size:=by obtain ⟨m,hm⟩:=kk4;exact DataW.trod_lt m _ _ _ hm
  have hrd4:=Reads.of h4;obtain ⟨n4,rfl⟩:=okWide_int Tryz.underlying23 (hval 4 23 v4 rfl rfl);obtain ⟨x4,e4,ok4⟩:=Xj hrd4;simp [Value.cells] at e4;have e4_:=e4.symm;subst e4_;have kk5:=h5;have lt5:∀x∈p5,x.block<W.heap.size:=by obtain ⟨m,hm⟩:=kk5;exact DataW.trod_lt m _ _ _ hm
  have hrd5:=Reads.of h5;obtain ⟨n5,rfl⟩:=okWide_int Tryz.underlying5 (hval 5 5 v5 rfl rfl);obtain ⟨x5,e5,ok5⟩:=rd5 hrd5;simp [Value.cells] at e5;have e5_:=e5.symm;subst e5_
  clear hA0 hval0
  obtain ⟨F,hp⟩:∃F,Gc F x0 x1 x2 x3 x4 x5=some true:=⟨300000,T3 x0 x1 x2 x3 x4 x5 ok0 ok1 ok2 ok3 ok4 ok5⟩;refine (Pp F x0 x1 x2 x3 x4 x5 true hp (Eh W) W (Ab W) hf1_0 hf2_0 hf3_0).mono fun e W' ⟨he,bel⟩=>?_;subst he;exact ⟨_,rfl,_,_,_,[],_,[],hW',trodAll_mk1 (shut_bool Tryz.underlying4 _),(trodAll_cons_mk (Below.trod Ph (by kernel_rfl) (of_decide_eq_true (by kernel_rfl)) kk0 bel lt0) (trodAll_cons_mk (Below.trod Ph (by kernel_rfl) (of_decide_eq_true (by kernel_rfl)) kk1 bel lt1) (trodAll_cons_mk (Below.trod Ph (by kernel_rfl) (of_decide_eq_true (by kernel_rfl)) kk2 bel lt2) (trodAll_cons_mk (Below.trod Ph (by kernel_rfl) (of_decide_eq_true (by kernel_rfl)) kk3 bel lt3) (trodAll_cons_mk (Below.trod Ph (by kernel_rfl) (of_decide_eq_true (by kernel_rfl)) kk4 bel lt4) (trodAll_cons_mk (Below.trod Ph (by kernel_rfl) (of_decide_eq_true (by kernel_rfl)) kk5 bel lt5) trodAll_mk0)))))),rfl,bel.frame _,fun h=>by cases h⟩
theorem over:Rows.mosaicSyncRow.holds Tryz.pinned (OpenSpec.ofChange Rows.mosaicSyncSpec) :=
  OpenClaim.holds_of_wide 10 Tryz.f10 rfl rfl rfl rfl rfl rfl rfl ⟨rfl,rfl,rfl,rfl,rfl⟩ rfl rfl rfl rfl rfl (by kernel_rfl) Tryz.func10 (by kernel_rfl)
    (of_decide_eq_true (by kernel_rfl)) (by unfold Func.isWrapper;first|(rw [if_pos (by decide +kernel)];kernel_rfl)|(rw [if_neg (by decide +kernel)];exact ⟨rfl,rfl⟩))
    (fun os started H enc _=>A4d os started H enc)
end Go.Proofs.YtkbjbnkkfifbmaaGreat.mosaicSync
namespace Go.Proofs.YtkbjbnkkfifbmaaGreat
theorem mosaicSync_holds:Rows.MosaicSyncSaid:=mosaicSync.over
#print axioms mosaicSync_holds
end Go.Proofs.YtkbjbnkkfifbmaaGreat
