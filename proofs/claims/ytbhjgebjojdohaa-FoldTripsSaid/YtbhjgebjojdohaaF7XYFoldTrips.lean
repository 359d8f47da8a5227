import Derived.Test.YtbhjgebjojdohaaRows
import Derived.Test.YtbhjgebjojdohaaF7XR
import Derived.Test.YtbhjgebjojdohaaF7XA
import Derived.Test.YtbhjgebjojdohaaF7XW4
import Derived.WalkKit
import Derived.ProofKit
import Derived.OpenShut
import Derived.ChangeOld
import Derived.Below
namespace Go.Proofs.Ytbhjgebjojdohaa.foldTrips
open Go Go.Eng Go.ChangeShapes Go.WideShapes Go.ChangeAt Go.RowKit
set_option linter.unusedVariables false
theorem own:ownKnob Try.prog.godebug=none:=by kernel_rfl
theorem Lv:laidOutB Try.prog=true:=by kernel_rfl
set_option maxRecDepth 100000 in
theorem A54 (os:Os) (started:os.Started) (H:Type) (enc:TypeId×Value→H) :
    ReturnsInHanded {} Try.checked os 7 .any (Rows.foldTripsSpec.pre6 enc Try.prog Try.f7 Rows.foldTripsRow.domain false) (Rows.foldTripsSpec.post enc Try.prog Try.f7 false true false false):=by
  refine returnsInHanded_of_change (C:=Try.checked) own started (by kernel_rfl) Try.func7
    (ChangeSpec.witness6 (enc:=enc) (C:=Try.checked) false ⟨#[],#[.slice none 0 0,.slice none 0 0,.int .i64 0,.int .i64 0,.int .i64 0],[]⟩ 8 (by kernel_rfl) (by kernel_rfl) (by kernel_rfl) (by kernel_rfl)) ?_
  intro W base args ds gs before hval0 hW hcnd _;have hval:∀(j:Nat) t v,Try.f7.params[j]? = some t→args[j]? = some v→Value.okWide Try.prog W .any base t v:=hval0;have hW':=hW;obtain ⟨p,q,hA0,hV,rfl,hfz,hnd⟩:=hW;have hA:DataW.TrodAll enc Try.prog W 0 (fun _=>true) true Try.f7.params.toList args.toList ds p:=hA0;rw [Try.params7] at hA hval;obtain ⟨v0,vs0,d0,ds0,p0,q0,hargs,rfl,rfl,h0,r0⟩:=trodAll_cons hA;obtain ⟨v1,vs1,d1,ds1,p1,q1,rfl,rfl,rfl,h1,r1⟩:=trodAll_cons r0;obtain ⟨v2,vs2,d2,ds2,p2,q2,rfl,rfl,rfl,h2,r2⟩:=trodAll_cons r1;obtain ⟨v3,vs3,d3,ds3,p3,q3,rfl,rfl,rfl,h3,r3⟩:=trodAll_cons r2;obtain ⟨v4,vs4,d4,ds4,p4,q4,rfl,rfl,rfl,h4,r4⟩:=trodAll_cons r3;obtain ⟨rfl,rfl,rfl⟩:=trodAll_nil r4;obtain rfl:args=#[v0,v1,v2,v3,v4]:=by cases args;simp_all
  obtain ⟨rfl,rfl⟩:=trodVars_none hV;have kk0:=h0;have lt0:∀x∈p0,x.block<W.heap.size:=by obtain ⟨m,hm⟩:=kk0;exact DataW.trod_lt m _ _ _ hm
  have hrd0:=Reads.of h0;obtain ⟨sa0,sl0,sc0,rfl⟩:=okWide_slice Try.underlying43 (hval 0 43 v0 rfl rfl);obtain ⟨x0,ad1_0,cap2_0,e0,hf0_0,ok0⟩:=A6m hrd0;simp [Value.cells] at e0;obtain ⟨rfl,rfl,rfl⟩:=e0;have kk1:=h1;have lt1:∀x∈p1,x.block<W.heap.size:=by obtain ⟨m,hm⟩:=kk1;exact DataW.trod_lt m _ _ _ hm
  have hrd1:=Reads.of h1;obtain ⟨sa1,sl1,sc1,rfl⟩:=okWide_slice Try.underlying43 (hval 1 43 v1 rfl rfl);obtain ⟨x1,ad1_1,cap2_1,e1,hf1_0,ok1⟩:=A6m hrd1;simp [Value.cells] at e1;obtain ⟨rfl,rfl,rfl⟩:=e1;have kk2:=h2;have lt2:∀x∈p2,x.block<W.heap.size:=by obtain ⟨m,hm⟩:=kk2;exact DataW.trod_lt m _ _ _ hm
  have hrd2:=Reads.of h2;obtain ⟨n2,rfl⟩:=okWide_int Try.underlying3 (hval 2 3 v2 rfl rfl);obtain ⟨x2,e2,ok2⟩:=rd3 hrd2;simp [Value.cells] at e2;have e2_:=e2.symm;subst e2_;have kk3:=h3;have lt3:∀x∈p3,x.block<W.heap.size:=by obtain ⟨m,hm⟩:=kk3;exact DataW.trod_lt m _ _ _ hm
  have hrd3:=Reads.of h3;obtain ⟨n3,rfl⟩:=okWide_int Try.underlying3 (hval 3 3 v3 rfl rfl);obtain ⟨x3,e3,ok3⟩:=rd3 hrd3;simp [Value.cells] at e3;have e3_:=e3.symm;subst e3_;have kk4:=h4;have lt4:∀x∈p4,x.block<W.heap.size:=by obtain ⟨m,hm⟩:=kk4;exact DataW.trod_lt m _ _ _ hm
  have hrd4:=Reads.of h4;obtain ⟨n4,rfl⟩:=okWide_int Try.underlying3 (hval 4 3 v4 rfl rfl);obtain ⟨x4,e4,ok4⟩:=rd3 hrd4;simp [Value.cells] at e4;have e4_:=e4.symm;subst e4_
  clear hA0 hval0
  obtain ⟨F,hp⟩:∃F,D3 F x0 x1 x2 x3 x4=some true:=⟨1000000000000,Si x0 x1 x2 x3 x4⟩;refine (L1 F x0 x1 x2 x3 x4 true hp (Gx W) W (Cr W) hf0_0 hf1_0).mono fun e W' ⟨he,bel⟩=>?_;subst he;exact ⟨_,rfl,_,_,_,[],_,[],hW',trodAll_mk1 (shut_bool Try.underlying4 _),(trodAll_cons_mk (Below.trod Lv (by kernel_rfl) (of_decide_eq_true (by kernel_rfl)) kk0 bel lt0) (trodAll_cons_mk (Below.trod Lv (by kernel_rfl) (of_decide_eq_true (by kernel_rfl)) kk1 bel lt1) (trodAll_cons_mk (Below.trod Lv (by kernel_rfl) (of_decide_eq_true (by kernel_rfl)) kk2 bel lt2) (trodAll_cons_mk (Below.trod Lv (by kernel_rfl) (of_decide_eq_true (by kernel_rfl)) kk3 bel lt3) (trodAll_cons_mk (Below.trod Lv (by kernel_rfl) (of_decide_eq_true (by kernel_rfl)) kk4 bel lt4) trodAll_mk0))))),rfl,bel.frame _,fun h=>by cases h⟩
theorem over:Rows.foldTripsRow.holds Try.pinned (OpenSpec.ofChange Rows.foldTripsSpec) :=
  OpenClaim.holds_of_wide 7 Try.f7 rfl rfl rfl rfl rfl rfl rfl ⟨rfl,rfl,rfl,rfl,rfl⟩ rfl rfl rfl rfl rfl (by kernel_rfl) Try.func7 (by kernel_rfl)
    (of_decide_eq_true (by kernel_rfl)) (by unfold Func.isWrapper;first|(rw [if_pos (by decide +kernel)];kernel_rfl)|(rw [if_neg (by decide +kernel)];exact ⟨rfl,rfl⟩))
    (fun os started H enc _=>A54 os started H enc)
end Go.Proofs.Ytbhjgebjojdohaa.foldTrips
namespace Go.Proofs.Ytbhjgebjojdohaa
theorem foldTrips_holds:Rows.FoldTripsSaid:=foldTrips.over
#print axioms foldTrips_holds
end Go.Proofs.Ytbhjgebjojdohaa
