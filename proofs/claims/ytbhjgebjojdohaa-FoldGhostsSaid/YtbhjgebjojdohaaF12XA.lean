import Derived.Test.YtbhjgebjojdohaaF12XD
set_option linter.unusedVariables false
set_option linter.unusedSimpArgs false
set_option linter.unusedSectionVars false
namespace Go.Proofs.Ytbhjgebjojdohaa
open Go Go.RowKit Go.Eng
set_option maxRecDepth 10000
set_option linter.unusedVariables false
set_option linter.unusedSimpArgs false
def W (φ:Int→Int) (A:List arcP):Int:=(A.map fun x=>x.room*φ x.to).sum
theorem K9 (φ:Int→Int) (x:arcP) (A:List arcP):W φ (x::A)=x.room*φ x.to+W φ A:=by unfold W;rw [List.map_cons,List.sum_cons]
theorem Wg (φ:Int→Int):∀{A:List arcP} {i:Nat} {x y:arcP},A[i]? = some x→W φ (A.set i y)=W φ A-x.room*φ x.to+y.room*φ y.to
 | [],i,x,y,h=>by simp at h
 | a::A,0,x,y,h=>by
  simp at h;subst h;rw [List.set_cons_zero,K9,K9];omega
 | a::A,i+1,x,y,h=>by
  simp only [List.getElem?_cons_succ] at h;rw [List.set_cons_succ,K9,K9,Wg φ h];omega
def Top (A B:List arcP):Prop:=B.length=A.length∧∀(i:Nat) (x:arcP),A[i]? = some x→∃r,B[i]? = some ⟨x.to,r,x.twin⟩
theorem Top.rfl (A:List arcP):Top A A:=⟨by rfl,fun i x h=>⟨x.room,h⟩⟩
theorem Top.tr {A B C:List arcP} (h:Top A B) (k:Top B C):Top A C:=⟨k.1.trans h.1,fun i x hx=>by
 obtain ⟨r,h1⟩:=h.2 i x hx;obtain ⟨q,h2⟩:=k.2 i _ h1;exact ⟨q,h2⟩⟩
theorem Top.set {A:List arcP} {i:Nat} {x:arcP} {r:Int} (h:A[i]? = some x):Top A (A.set i ⟨x.to,r,x.twin⟩):=by
 refine ⟨List.length_set,fun j y hy=>?_⟩
 by_cases e:i=j
 ·subst e;rw [h] at hy;cases hy
  exact ⟨r,by rw [List.getElem?_set_self (List.getElem?_eq_some_iff.1 h).1]⟩
 ·exact ⟨y.room,by rw [List.getElem?_set_ne e];exact hy⟩
theorem Top.symm {A B:List arcP} (h:Top A B):Top B A:=by
 refine ⟨h.1.symm,fun i y hy=>?_⟩;have hi:i<A.length:=by rw [←h.1];exact (List.getElem?_eq_some_iff.1 hy).1
 obtain ⟨r,hr⟩:=h.2 i _ (List.getElem?_eq_getElem hi);rw [hr] at hy;cases hy
 exact ⟨A[i].room,List.getElem?_eq_getElem hi⟩
structure GA (n:Nat) (C:Int) (A:List arcP):Prop where
 to:∀(i:Nat) (x:arcP),A[i]? = some x→0≤x.to∧x.to<n
 tw:∀(i:Nat) (x:arcP),A[i]? = some x→∃(j:Nat) (y:arcP),x.twin=j∧A[j]? = some y∧y.twin=(i:Nat)∧j≠i∧x.room+y.room≤C
 room:∀(i:Nat) (x:arcP),A[i]? = some x→0≤x.room
def Sums (A B:List arcP):Prop:=∀(i j:Nat) (x y x' y':arcP),A[i]? = some x→A[j]? = some y→x.twin=(j:Nat)→B[i]? = some x'→B[j]? = some y'→x'.room+y'.room=x.room+y.room
theorem Sums.rfl (A:List arcP):Sums A A:=fun i j x y x' y' h1 h2 h3 h4 h5=>by rw [h1] at h4;rw [h2] at h5;cases h4;cases h5;rfl
theorem Sums.tr {A B C:List arcP} (ht:Top A B) (h:Sums A B) (k:Sums B C):Sums A C:=fun i j x y x' y' h1 h2 h3 h4 h5=>by
 obtain ⟨r,hr⟩:=ht.2 i x h1;obtain ⟨q,hq⟩:=ht.2 j y h2;have:=h i j x y _ _ h1 h2 h3 hr hq;have:=k i j _ _ x' y' hr hq h3 h4 h5;omega
theorem GA.keep {n:Nat} {C:Int} {A B:List arcP} (h:GA n C A) (ht:Top A B) (hs:Sums A B) (hr:∀(i:Nat) (x:arcP),B[i]? = some x→0≤x.room):GA n C B:=by
 refine ⟨fun i y hy=>?_,fun i y hy=>?_,hr⟩
 ·obtain ⟨r,hx⟩:=ht.symm.2 i y hy;have:=h.to i _ hx;exact this
 ·obtain ⟨r,hx⟩:=ht.symm.2 i y hy;obtain ⟨j,z,h1,h2,h3,h4,h5⟩:=h.tw i _ hx;obtain ⟨q,hq⟩:=ht.2 j z h2;have:=hs i j _ z y _ hx h2 h1 hy hq;exact ⟨j,_,h1,hq,h3,h4,by dsimp only at *;omega⟩
def Dg (A:List arcP) (i j:Nat) (x y:arcP) (k:Int):List arcP:=(A.set i ⟨x.to,x.room-k,x.twin⟩).set j ⟨y.to,y.room+k,y.twin⟩
theorem Wj {n:Nat} {C:Int} {A:List arcP} {i j:Nat} {x y:arcP} {k:Int} (h:GA n C A) (hx:A[i]? = some x) (hj:x.twin=j) (hy:A[j]? = some y) (hyt:y.twin=(i:Nat)) (hij:j≠i) (hk:0≤k) (hr:k≤x.room) :
  GA n C (Dg A i j x y k)∧Top A (Dg A i j x y k)∧Sums A (Dg A i j x y k)∧(∀φ,W φ (Dg A i j x y k)=W φ A+k*(φ y.to-φ x.to))∧(∀(l:Nat) (z:arcP),l≠i→A[l]? = some z→∃r,z.room≤r∧(Dg A i j x y k)[l]? = some ⟨z.to,r,z.twin⟩)∧(∀l:Nat,l≠i→l≠j→(Dg A i j x y k)[l]? = A[l]?):=by
 have e:Dg A i j x y k=(A.set i ⟨x.to,x.room-k,x.twin⟩).set j ⟨y.to,y.room+k,y.twin⟩:=rfl;have hi:=(List.getElem?_eq_some_iff.1 hx).1;have hjl:=(List.getElem?_eq_some_iff.1 hy).1;have hy':(A.set i ⟨x.to,x.room-k,x.twin⟩)[j]? = some y:=by rw [List.getElem?_set_ne (fun e=>hij e.symm)];exact hy
 have top:Top A (Dg A i j x y k):=by rw [e];exact (Top.set hx).tr (Top.set hy')
 have gi:(Dg A i j x y k)[i]? = some ⟨x.to,x.room-k,x.twin⟩:=by
  rw [e,List.getElem?_set_ne hij,List.getElem?_set_self hi]
 have gj:(Dg A i j x y k)[j]? = some ⟨y.to,y.room+k,y.twin⟩:=by
  rw [e,List.getElem?_set_self (by rw [List.length_set];exact hjl)]
 have go:∀l:Nat,l≠i→l≠j→(Dg A i j x y k)[l]? = A[l]?:=by
  intro l h1 h2;rw [e,List.getElem?_set_ne (fun q=>h2 q.symm),List.getElem?_set_ne (fun q=>h1 q.symm)]
 have sums:Sums A (Dg A i j x y k):=by
  intro a b u v u' v' h1 h2 h3 h4 h5
  by_cases ea:a=i
  ·subst ea;rw [hx] at h1;cases h1
   have eb:b=j:=by rw [hj] at h3;omega
   subst eb;rw [hy] at h2;cases h2
   rw [gi] at h4;rw [gj] at h5;cases h4;cases h5
   dsimp only;omega
  ·by_cases ea2:a=j
   ·subst ea2;rw [hy] at h1;cases h1
    have eb:b=i:=by rw [hyt] at h3;omega
    subst eb;rw [hx] at h2;cases h2
    rw [gj] at h4;rw [gi] at h5;cases h4;cases h5
    dsimp only;omega
   ·rw [go a ea ea2,h1] at h4;cases h4
    obtain ⟨c,z,w1,w2,w3,w4,_⟩:=h.tw a _ h1;have ebc:b=c:=by rw [w1] at h3;omega
    subst ebc;rw [h2] at w2;cases w2
    have b1:b≠i:=by
     intro q;subst q;rw [hx] at h2;cases h2
     rw [hj] at w3;omega
    have b2:b≠j:=by
     intro q;subst q;rw [hy] at h2;cases h2
     rw [hyt] at w3;omega
    rw [go b b1 b2,h2] at h5;cases h5
    rfl
 have rm:∀(l:Nat) (z:arcP),(Dg A i j x y k)[l]? = some z→0≤z.room:=by
  intro l z hz
  by_cases h1:l=i
  ·subst h1;rw [gi] at hz;cases hz;dsimp only;omega
  ·by_cases h2:l=j
   ·subst h2;rw [gj] at hz;cases hz;have:=h.room _ _ hy;dsimp only;omega
   ·rw [go l h1 h2] at hz;exact h.room _ _ hz
 refine ⟨h.keep top sums rm,top,sums,fun φ=>?_,fun l z h1 hz=>?_,go⟩
 ·rw [e,Wg φ hy',Wg φ hx];dsimp only;have a1:(x.room-k)*φ x.to=x.room*φ x.to-k*φ x.to:=Int.sub_mul _ _ _;have a2:(y.room+k)*φ y.to=y.room*φ y.to+k*φ y.to:=Int.add_mul _ _ _;have a3:k*(φ y.to-φ x.to)=k*φ y.to-k*φ x.to:=Int.mul_sub _ _ _;omega
 ·by_cases h2:l=j
  ·subst h2;rw [hy] at hz;cases hz
   exact ⟨_,by omega,gj⟩
  ·exact ⟨z.room,Int.le_refl _,by rw [go l h1 h2];exact hz⟩
end Go.Proofs.Ytbhjgebjojdohaa
namespace Go.Proofs.Ytbhjgebjojdohaa
open Go Go.RowKit Go.Eng
set_option maxRecDepth 10000
set_option linter.unusedVariables false
set_option linter.unusedSimpArgs false
theorem Do {α:Type} {l:List α} {i:Int} (h:0≤i∧i<(l.length:Int)):∃x,getI l i=some x:=by
 refine ⟨l[i.toNat]'(by omega),?_⟩;unfold getI;rw [if_pos h.1];exact List.getElem?_eq_getElem (by omega)
theorem getI_nat {α:Type} {l:List α} {i:Nat}:getI l (i:Int)=l[i]?:=by unfold getI;rw [if_pos (by omega),Int.toNat_natCast]
theorem Bz {α:Type} {l:List α} {i:Int} {x:α} (h:getI l i=some x):∃k:Nat,i=k∧l[k]? = some x:=by
 unfold getI at h
 split at h
 ·exact ⟨i.toNat,by omega,h⟩
 ·cases h
theorem K0 {α:Type} {l:List α} {i:Int} {x y:α} (h:getI l i=some x):∃l2,Cb l i y=some l2∧l2.length=l.length∧getI l2 i=some y∧∀j,j≠i→getI l2 j=getI l j:=by
 obtain ⟨k,rfl,hk⟩:=Bz h;have hl:=(List.getElem?_eq_some_iff.1 hk).1;refine ⟨l.set k y,?_,List.length_set,?_,fun j hj=>?_⟩
 ·unfold Cb;rw [if_pos ⟨by omega,by omega⟩,Int.toNat_natCast]
 ·rw [getI_nat,List.getElem?_set_self hl]
 ·unfold getI
  split
  ·rw [List.getElem?_set_ne (by omega)]
  ·rfl
def cT (met:List Bool):Nat:=(met.filter id).length
theorem Ws (met:List Bool):cT met≤met.length:=List.length_filter_le _ _
theorem T3:∀{met:List Bool} {k:Nat},met[k]? = some false→cT (met.set k true)=cT met+1
 | [],k,h=>by simp at h
 | b::met,0,h=>by simp at h;subst h;rfl
 | b::met,k+1,h=>by
  simp only [List.getElem?_cons_succ] at h;have:=T3 h;unfold cT at this ⊢;rw [List.set_cons_succ,List.filter_cons,List.filter_cons]
  split
  ·rw [List.length_cons,List.length_cons,this]
  ·exact this
def exc (A:List arcP) (but a:Int):Prop:=0≤but∧(a=but∨∃y,getI A but=some y∧a=y.twin)
def Pa (A:List arcP) (but:Int):Prop:=but<0∨∃y,getI A but=some y
theorem Ya {n:Nat} {C:Int} {A:List arcP} (hg:GA n C A) {but a:Int} (hb:Pa A but) {x:arcP} (hx:getI A a=some x) {met:List Bool} (hl:met.length=n) :
  ∃b,Nt A but a met=some (x,b)∧(b=true→0<x.room∧getI met x.to=some false∧¬exc A but a)∧(b=false→0<x.room→¬exc A but a→getI met x.to=some true):=by
 obtain ⟨k,rfl,hk⟩:=Bz hx;obtain ⟨m,hm⟩:=Do (l:=met) (i:=x.to) (by have:=hg.to k x hk;omega);have go:x.room>0→∀o,getI met x.to=some o→Nt A but k met=((gd ((!o)==true&&true) (if but<0 then some true else (getI A but).bind fun y=>if 0≤y.twin∧y.twin<(A.length:Int) then some (!decide ((k:Int)=but)&&!decide ((k:Int)=y.twin)) else none) default).bind fun ok=>some (x,bif !o then ok else false)):=by
  intro hr o ho;unfold Nt;rw [hx];show ((gd _ _ _).bind _)=_;rw [decide_eq_true hr];show ((getI met x.to).bind _)=_;rw [ho];rfl
 by_cases hr:x.room>0
 ·cases m with
  | true=>exact ⟨false,(go hr _ hm).trans rfl,fun h=>(by cases h),fun _ _ _=>hm⟩
  | false =>
   have e0:=go hr _ hm
   by_cases h0:but<0
   ·rw [if_pos h0] at e0;exact ⟨true,e0.trans rfl,fun _=>⟨hr,hm,fun e=>(by have:=e.1;omega)⟩,fun h=>(by cases h)⟩
   ·rw [if_neg h0] at e0;rcases hb with hb|⟨y,hy⟩
    ·exact absurd hb h0
    rw [hy] at e0;obtain ⟨j,hbj,hj⟩:=Bz hy;obtain ⟨q,z,e1,e2,e3,e4,e5⟩:=hg.tw j y hj;have hq:=(List.getElem?_eq_some_iff.1 e2).1;replace e0:Nt A but k met=((if 0≤y.twin∧y.twin<(A.length:Int) then some (!decide ((k:Int)=but)&&!decide ((k:Int)=y.twin)) else none).bind fun ok=>some (x,ok)):=e0;rw [if_pos ⟨by omega,by omega⟩] at e0;refine ⟨_,e0,fun h=>?_,fun h _ hne=>?_⟩
    ·simp only [Bool.and_eq_true,Bool.not_eq_true',decide_eq_false_iff_not] at h;refine ⟨hr,hm,fun e=>?_⟩;rcases e.2 with e|⟨y',hy',e⟩
     ·exact h.1 e
     ·rw [hy] at hy';cases hy';exact h.2 e
    ·exfalso;apply hne;refine ⟨by omega,?_⟩
     by_cases h1:(k:Int)=but
     ·exact .inl h1
     ·by_cases h2:(k:Int)=y.twin
      ·exact .inr ⟨y,hy,h2⟩
      ·rw [decide_eq_false h1,decide_eq_false h2] at h;cases h
 ·refine ⟨false,?_,fun h=>(by cases h),fun _ h=>absurd h hr⟩
  unfold Nt;rw [hx];show ((gd _ _ _).bind _)=_;rw [decide_eq_false hr];rfl
structure BI (n:Nat) (A:List arcP) (but u:Int) (met:List Bool) (by_:List Int) (dep:Int→Nat):Prop where
 lm:met.length=n
 lb:by_.length=n
 mu:getI met u=some true
 cnt:∀x,getI met x=some true→dep x<cT met
 tree:∀x,getI met x=some true→x≠u→∃(a:Int) (α β:arcP),getI by_ x=some a∧getI A a=some α∧getI A α.twin=some β∧α.to=x∧getI met β.to=some true∧dep β.to<dep x∧0<α.room∧¬exc A but a
def CL (fr:List (List Int)) (A:List arcP) (but:Int) (met:List Bool) (x:Int):Prop:=∀row a α,getI fr x=some row→a∈row→getI A a=some α→0<α.room→¬exc A but a→getI met α.to=some true
theorem CL.mono {fr:List (List Int)} {A:List arcP} {but x:Int} {met met2:List Bool} (h:CL fr A but met x) (hm:∀y,getI met y=some true→getI met2 y=some true):CL fr A but met2 x:=fun row a α h1 h2 h3 h4 h5=>hm _ (h row a α h1 h2 h3 h4 h5)
theorem Qx {n:Nat} {C:Int} {A:List arcP} (hg:GA n C A) {but u x0:Int} (hb:Pa A but) (hn:n≤100000):∀(l:List Int) (met:List Bool) (by_ todo:List Int) (dep:Int→Nat),BI n A but u met by_ dep→(∀a∈l,∃(α β:arcP),getI A a=some α∧getI A α.twin=some β∧β.to=x0)→getI met x0=some true→todo.length≤cT met →
  ∃met2 by2 more dep2,Gi A but l met by_ todo=some (met2,by2,todo++more)∧BI n A but u met2 by2 dep2∧(∀y,getI met y=some true→getI met2 y=some true)∧(∀a∈l,∀α,getI A a=some α→0<α.room→¬exc A but a→getI met2 α.to=some true) ∧
   (∀y,getI met2 y=some true→getI met y=some true∨y∈more)∧(∀y∈more,getI met2 y=some true)∧cT met2=cT met+more.length
 | [],met,by_,todo,dep,hI,_,_,_=>⟨met,by_,[],dep,by rw [List.append_nil];rfl,hI,fun _ h=>h,fun a h=>(by cases h),fun _ h=>.inl h,fun y h=>(by cases h),rfl⟩
 | a::l,met,by_,todo,dep,hI,hl,h0,ht=>by
  obtain ⟨α,β,hα,hβ,hβ0⟩:=hl a (List.mem_cons_self ..);obtain ⟨b,hb1,hb2,hb3⟩:=Ya hg hb hα hI.lm;rw [Gi,hb1];show ∃met2 by2 more dep2,(bif b then _ else _)=_∧_
  cases b with
  | false =>
   obtain ⟨met2,by2,more,dep2,e1,e2,e3,e4,e5,e6,e7⟩:=Qx hg hb hn l met by_ todo dep hI (fun a' h=>hl a' (List.mem_cons_of_mem _ h)) h0 ht;refine ⟨met2,by2,more,dep2,e1,e2,e3,fun a' ha' α' hα' hr hx=>?_,e5,e6,e7⟩;rcases List.mem_cons.1 ha' with rfl|ha'
   ·rw [hα] at hα';cases hα'
    exact e3 _ (hb3 rfl hr hx)
   ·exact e4 a' ha' α' hα' hr hx
  | true =>
   obtain ⟨hr,hmf,hx⟩:=hb2 rfl;obtain ⟨met1,s1,s2,s3,s4⟩:=K0 (y:=true) hmf;obtain ⟨k,hk,hmk⟩:=Bz hmf;have hkl:=(List.getElem?_eq_some_iff.1 hmk).1;obtain ⟨ob,hob⟩:=Do (l:=by_) (i:=α.to) (by rw [hk];have:=hI.lb;have:=hI.lm;omega);obtain ⟨by1,r1,r2,r3,r4⟩:=K0 (y:=a) hob;have hc1:cT met1=cT met+1:=by
    have:=Bx s1;rw [this.2.2,hk,Int.toNat_natCast];exact T3 hmk
   have hcl:cT met1≤n:=by have:=Ws met1;rw [s2,hI.lm] at this;exact this
   have hap:apd 8 todo [α.to]=some (todo++[α.to]):=by
    unfold apd;rw [if_pos ⟨by rw [List.length_singleton];omega,by rw [List.length_singleton];omega⟩]
   have keep:∀y,getI met y=some true→getI met1 y=some true:=fun y hy=>by
    have:y≠α.to:=fun e=>by rw [e,hmf] at hy;cases hy
    rw [s4 y this];exact hy
   have hI1:BI n A but u met1 by1 (fun w=>if w=α.to then dep x0+1 else dep w):=by
    refine ⟨s2.trans hI.lm,r2.trans hI.lb,keep u hI.mu,fun y hy=>?_,fun y hy hyu=>?_⟩
    ·rw [hc1];try dsimp only
     split
     ·have:=hI.cnt x0 h0;omega
     ·rename_i hne
      rw [s4 y hne] at hy;have:=hI.cnt y hy;omega
    ·by_cases hne:y=α.to
     ·subst hne;refine ⟨a,α,β,r3,hα,hβ,rfl,?_,?_,hr,hx⟩
      ·rw [hβ0];exact keep x0 h0
      ·rw [hβ0];try dsimp only
       rw [if_pos rfl,if_neg (fun e=>by rw [←e,h0] at hmf;cases hmf)]
       omega
     ·rw [s4 y hne] at hy;obtain ⟨a',α',β',g1,g2,g3,g4,g5,g6,g7,g8⟩:=hI.tree y hy hyu;refine ⟨a',α',β',by rw [r4 y hne];exact g1,g2,g3,g4,keep _ g5,?_,g7,g8⟩;try dsimp only
      rw [if_neg hne,if_neg (fun e=>by rw [e,hmf] at g5;cases g5)]
      exact g6
   obtain ⟨met2,by2,more,dep2,e1,e2,e3,e4,e5,e6,e7⟩:=Qx hg hb hn l met1 by1 (todo++[α.to]) _ hI1 (fun a' h=>hl a' (List.mem_cons_of_mem _ h)) (keep x0 h0) (by rw [List.length_append,List.length_singleton,hc1];omega);refine ⟨met2,by2,α.to::more,dep2,?_,e2,fun y hy=>e3 y (keep y hy),fun a' ha' α' hα' hr' hx'=>?_,fun y hy=>?_,fun y hy=>?_,?_⟩
   ·show ((Cb met α.to true).bind _)=_;rw [s1];show ((Cb by_ α.to a).bind _)=_;rw [r1];show ((apd 8 todo [α.to]).bind _)=_;rw [hap];show Gi A but l met1 by1 (todo++[α.to])=_;rw [e1,List.append_assoc];rfl
   ·rcases List.mem_cons.1 ha' with rfl|ha'
    ·rw [hα] at hα';cases hα'
     exact e3 _ s3
    ·exact e4 a' ha' α' hα' hr' hx'
   ·rcases e5 y hy with h|h
    ·by_cases hne:y=α.to
     ·exact .inr (by rw [hne];exact List.mem_cons_self ..)
     ·rw [s4 y hne] at h;exact .inl h
    ·exact .inr (List.mem_cons_of_mem _ h)
   ·rcases List.mem_cons.1 hy with rfl|hy
    ·exact e3 _ s3
    ·exact e6 y hy
   ·rw [e7,hc1,List.length_cons];omega
end Go.Proofs.Ytbhjgebjojdohaa
namespace Go.Proofs.Ytbhjgebjojdohaa
open Go Go.RowKit Go.Eng
set_option maxRecDepth 10000
set_option linter.unusedVariables false
set_option linter.unusedSimpArgs false
def FR (n:Nat) (fr:List (List Int)) (A:List arcP):Prop:=fr.length=n∧(∀x row,getI fr x=some row→∀a∈row,∃(α β:arcP),getI A a=some α∧getI A α.twin=some β∧β.to=x) ∧
 ∀(a:Int) (α β:arcP),getI A a=some α→getI A α.twin=some β→∃row,getI fr β.to=some row∧a∈row
theorem Wp {n:Nat} {C:Int} {A:List arcP} (hg:GA n C A) {fr:List (List Int)} (hfr:FR n fr A) {but u v:Int} (hb:Pa A but) (hn:n≤100000) (hv:0≤v∧v<n):∀(F:Nat) (met:List Bool) (by_ todo:List Int) (dep:Int→Nat),BI n A but u met by_ dep→(∀y∈todo,getI met y=some true)→(∀y,getI met y=some true→y∈todo∨CL fr A but met y)→todo.length≤cT met→todo.length+(n-cT met)<F →
  ∃met2 by2 dep2,Q2 ⟨fr,A⟩ but v F met by_ todo=some (met2,by2)∧BI n A but u met2 by2 dep2∧(getI met2 v=some true∨(getI met2 v=some false∧∀y,getI met2 y=some true→CL fr A but met2 y))
 | 0,_,_,_,_,_,_,_,_,hF=>by omega
 | F+1,met,by_,[],dep,hI,h1,h2,h3,hF=>by
  obtain ⟨mv,hmv⟩:=Do (l:=met) (i:=v) (by rw [hI.lm];exact hv);refine ⟨met,by_,dep,rfl,hI,?_⟩
  cases mv with
  | true=>exact .inl hmv
  | false=>exact .inr ⟨hmv,fun y hy=>(h2 y hy).resolve_left (by simp)⟩
 | F+1,met,by_,x::rest,dep,hI,h1,h2,h3,hF=>by
  obtain ⟨mv,hmv⟩:=Do (l:=met) (i:=v) (by rw [hI.lm];exact hv);have hpos:decide ((((x::rest).length:Nat):Int)>0)=true:=decide_eq_true (by rw [List.length_cons];omega);have e0:Q2 ⟨fr,A⟩ but v (F+1) met by_ (x::rest)=bif !mv then (getI (x::rest) 0).bind fun x1=>(getI fr x1).bind fun row=>(Gi A but row met by_ (x::rest)).bind fun s=>(Nz s.2.2 1 (s.2.2.length:Int)).bind fun todo2=>Q2 ⟨fr,A⟩ but v F s.1 s.2.1 todo2 else some (met,by_):=by
   rw [Q2,hpos];show ((getI met v).bind _)=_;rw [hmv];rfl
  cases mv with
  | true=>exact ⟨met,by_,dep,e0,hI,.inl hmv⟩
  | false =>
   have hx:=h1 x (List.mem_cons_self ..);obtain ⟨k,hk,hmk⟩:=Bz hx;have hkl:=(List.getElem?_eq_some_iff.1 hmk).1;obtain ⟨row,hrow⟩:=Do (l:=fr) (i:=x) (by rw [hfr.1];have:=hI.lm;omega);obtain ⟨met2,by2,more,dep2,e1,e2,e3,e4,e5,e6,e7⟩:=Qx hg hb hn row met by_ (x::rest) dep hI (hfr.2.1 x row hrow) hx h3;have hc2:cT met2≤n:=by have:=Ws met2;rw [e2.lm] at this;exact this
   have hcl:CL fr A but met2 x:=fun row' a α r1 r2 r3 r4 r5=>by
    rw [hrow] at r1;cases r1
    exact e4 a r2 α r3 r4 r5
   rw [List.length_cons] at h3 hF;obtain ⟨met3,by3,dep3,f1,f2,f3⟩:=Wp hg hfr hb hn hv F met2 by2 (rest++more) dep2 e2 (fun y hy=>by
     rcases List.mem_append.1 hy with hy|hy
     ·exact e3 y (h1 y (List.mem_cons_of_mem _ hy))
     ·exact e6 y hy) (fun y hy=>by
     rcases e5 y hy with h|h
     ·rcases h2 y h with h|h
      ·rcases List.mem_cons.1 h with rfl|h
       ·exact .inr hcl
       ·exact .inl (List.mem_append_left _ h)
      ·exact .inr (h.mono e3)
     ·exact .inl (List.mem_append_right _ h)) (by rw [List.length_append];omega) (by rw [List.length_append];omega)
   refine ⟨met3,by3,dep3,?_,f2,f3⟩;rw [e0];show ((getI fr x).bind _)=_;rw [hrow];show ((Gi A but row met by_ (x::rest)).bind _)=_;rw [e1];have hcut:Nz (x::rest++more) 1 ((x::rest++more).length:Int)=some (rest++more):=by
    unfold Nz;rw [if_pos ⟨by omega,by rw [List.length_append,List.length_cons];omega,Int.le_refl _⟩]
    congr 1
    rw [Int.toNat_natCast];show ((rest++more).take _)=_;rw [List.take_of_length_le (by rw [List.cons_append,List.length_cons];omega)]
   show ((Nz (x::rest++more) 1 ((x::rest++more).length:Int)).bind _)=_;rw [hcut];exact f1
theorem Top.getI {A B:List arcP} (h:Top A B) {a:Int} {x:arcP} (hx:Go.Eng.getI A a=some x):∃r,Go.Eng.getI B a=some ⟨x.to,r,x.twin⟩:=by
 obtain ⟨k,rfl,hk⟩:=Bz hx;obtain ⟨r,hr⟩:=h.2 k x hk;exact ⟨r,by rw [getI_nat];exact hr⟩
inductive Pt (E:Int→Prop) (A:List arcP) (by_:List Int) (u k:Int) (dep:Int→Nat):Int→Prop
 | nil:Pt E A by_ u k dep u
 | cons {x a:Int} {α β:arcP}:x≠u→getI by_ x=some a→getI A a=some α→getI A α.twin=some β→α.to=x→k≤α.room→¬E a→dep β.to<dep x→Pt E A by_ u k dep β.to→Pt E A by_ u k dep x
theorem Pt.keep {E:Int→Prop} {A B:List arcP} {by_:List Int} {u k:Int} {dep:Int→Nat} {z x:Int} (ht:Top A B) (hr:∀(a:Int) (α:arcP),getI A a=some α→α.to≠z→∃r,α.room≤r∧getI B a=some ⟨α.to,r,α.twin⟩) (h:Pt E A by_ u k dep x) (hz:dep x<dep z):Pt E B by_ u k dep x:=by
 induction h with
 | nil=>exact .nil
 | cons h1 h2 h3 h4 h5 h6 h7 h8 _ ih =>
  rename_i x a α β _
  obtain ⟨r,g1,g2⟩:=hr a α h3 (fun e=>by rw [h5] at e;rw [e] at hz;omega);obtain ⟨q,g3⟩:=ht.getI h4;exact .cons h1 h2 g2 g3 h5 (Int.le_trans h6 g1) h7 h8 (ih (by omega))
theorem Rt {n:Nat} {A:List arcP} {but u:Int} {met:List Bool} {by_:List Int} {dep:Int→Nat} (hI:BI n A but u met by_ dep):∀(F:Nat) (x k:Int),getI met x=some true→dep x<F→1≤k→∃k2,G1 A by_ u F x k=some k2∧1≤k2∧k2≤k∧Pt (exc A but) A by_ u k2 dep x
 | 0,_,_,_,hF,_=>by omega
 | F+1,x,k,hx,hF,hk=>by
  by_cases hxu:x=u
  ·subst hxu;refine ⟨k,?_,hk,Int.le_refl _,.nil⟩;rw [G1,show (x != x)=false by simp];rfl
  ·obtain ⟨a,α,β,g1,g2,g3,g4,g5,g6,g7,g8⟩:=hI.tree x hx hxu;obtain ⟨k2,e1,e2,e3,e4⟩:=Rt hI F β.to (if α.room<k then α.room else k) g5 (by omega) (by split<;>omega);refine ⟨k2,?_,e2,by split at e3<;>omega,.cons hxu g1 g2 g3 g4 (by split at e3<;>omega) g8 g6 e4⟩;rw [G1,show (x != u)=true by simp [hxu]];have hbk:F6 A by_ x=some (a,α,β):=by
    unfold F6;rw [g1];show ((getI A a).bind _)=_;rw [g2];show ((getI A α.twin).bind _)=_;rw [g3];rfl
   rw [hbk];exact e1
theorem Sh {n:Nat} {C:Int} {E:Int→Prop} {by_:List Int} {u k:Int} {dep:Int→Nat} (hk:0≤k) (hC:C≤1000000000000000):∀(F:Nat) (x:Int) (A:List arcP),GA n C A→(∀(a:Int) (α:arcP),getI A a=some α→E α.twin→E a)→Pt E A by_ u k dep x→dep x<F →
  ∃A2,F1 by_ u k F x A=some A2∧GA n C A2∧Top A A2∧Sums A A2∧(∀φ,W φ A2=W φ A+k*(φ u-φ x))∧∀a:Int,E a→getI A2 a=getI A a
 | 0,_,_,_,_,_,hF=>by omega
 | F+1,x,A,hg,hEt,hp,hF=>by
  cases hp with
  | nil =>
   refine ⟨A,?_,hg,Top.rfl A,Sums.rfl A,fun φ=>?_,fun _ _=>rfl⟩
   ·rw [F1,show (u != u)=false by simp];rfl
   ·rw [Int.sub_self,Int.mul_zero,Int.add_zero]
  | cons h1 h2 h3 h4 h5 h6 h7 h8 h9 =>
   rename_i a α β
   obtain ⟨i,rfl,hi⟩:=Bz h3;obtain ⟨j,y,t1,t2,t3,t4,t5⟩:=hg.tw i α hi;have hyβ:y=β:=by rw [t1,getI_nat,t2] at h4;exact Option.some.inj h4
   subst hyβ;obtain ⟨o1,o2,o3,o4,o5,o6⟩:=Wj hg hi t1 t2 t3 t4 hk h6;have hil:=(List.getElem?_eq_some_iff.1 hi).1;have hjl:=(List.getElem?_eq_some_iff.1 t2).1;have r1:=hg.room i α hi;have r2:=hg.room j y t2;have hne:¬E (j:Int):=fun e=>h7 (hEt i α h3 (by rw [t1];exact e));have hp2:Pt E (Dg A i j α y k) by_ u k dep y.to:=by
    refine h9.keep o2 (z:=x) (fun a' α' ha' hn'=>?_) h8;obtain ⟨l,rfl,hl⟩:=Bz ha';obtain ⟨r,q1,q2⟩:=o5 l α' (fun e=>by subst e;rw [hi] at hl;cases hl;exact hn' h5) hl
    exact ⟨r,q1,by rw [getI_nat];exact q2⟩
   have hEt2:∀(a:Int) (α':arcP),getI (Dg A i j α y k) a=some α'→E α'.twin→E a:=fun a' α' ha' he=>by
    obtain ⟨r,hr⟩:=o2.symm.getI ha';exact hEt a' _ hr he
   obtain ⟨A2,e1,e2,e3,e4,e5,e6⟩:=Sh hk hC F y.to (Dg A i j α y k) o1 hEt2 hp2 (by omega);refine ⟨A2,?_,e2,o2.tr e3,Sums.tr o2 o3 e4,fun φ=>?_,fun a' ha'=>?_⟩
   ·rw [F1,show (x != u)=true by simp [h1]];have hbk:F6 A by_ x=some ((i:Int),α,y):=by
     unfold F6;rw [h2];show ((getI A (i:Int)).bind _)=_;rw [h3];show ((getI A α.twin).bind _)=_;rw [h4];rfl
    rw [hbk];show ((ck (α.room-k)).bind _)=_;rw [show ck (α.room-k)=some (α.room-k) by unfold ck;rw [if_pos ⟨by omega,by omega⟩]];show ((Cb A (i:Int) _).bind _)=_;rw [show Cb A (i:Int) { α with room:=α.room-k }=some (A.set i ⟨α.to,α.room-k,α.twin⟩) by unfold Cb;rw [if_pos ⟨by omega,by omega⟩,Int.toNat_natCast]];show ((getI (A.set i _) α.twin).bind _)=_;rw [show getI (A.set i ⟨α.to,α.room-k,α.twin⟩) α.twin=some y by rw [t1,getI_nat,List.getElem?_set_ne (fun e=>t4 e.symm)];exact t2];show ((ck (y.room+k)).bind _)=_;rw [show ck (y.room+k)=some (y.room+k) by unfold ck;rw [if_pos ⟨by omega,by omega⟩]];show ((Cb (A.set i _) α.twin _).bind _)=_;rw [show Cb (A.set i ⟨α.to,α.room-k,α.twin⟩) α.twin { y with room:=y.room+k }=some (Dg A i j α y k) by
     have et:α.twin.toNat=j:=by omega
     unfold Cb;rw [if_pos ⟨by omega,by rw [List.length_set];omega⟩,et];rfl]
    show ((F6 (Dg A i j α y k) by_ x).bind _)=_;obtain ⟨r3,w1⟩:=o2.getI h3;obtain ⟨r4,w2⟩:=o2.getI h4;have hbk2:F6 (Dg A i j α y k) by_ x=some ((i:Int),⟨α.to,r3,α.twin⟩,⟨y.to,r4,y.twin⟩):=by
     unfold F6;rw [h2];show ((getI (Dg A i j α y k) (i:Int)).bind _)=_;rw [w1];show ((getI (Dg A i j α y k) α.twin).bind _)=_;rw [w2];rfl
    rw [hbk2];exact e1
   ·rw [e5,o4,h5];have a1:k*(φ y.to-φ x)=k*φ y.to-k*φ x:=Int.mul_sub _ _ _;have a2:k*(φ u-φ y.to)=k*φ u-k*φ y.to:=Int.mul_sub _ _ _;have a3:k*(φ u-φ x)=k*φ u-k*φ x:=Int.mul_sub _ _ _;omega
   ·rw [e6 a' ha'];unfold getI
    split
    ·rename_i h0
     refine o6 a'.toNat (fun e=>?_) (fun e=>?_)
     ·have:a'=(i:Int):=by omega
      rw [this] at ha';exact h7 ha'
     ·have:a'=(j:Int):=by omega
      rw [this] at ha';exact hne ha'
    ·rfl
end Go.Proofs.Ytbhjgebjojdohaa
namespace Go.Proofs.Ytbhjgebjojdohaa
open Go Go.RowKit Go.Eng
set_option maxRecDepth 10000
set_option linter.unusedVariables false
set_option linter.unusedSimpArgs false
theorem Ub {A B:List arcP} (h:Top A B) {but a:Int}:exc A but a→exc B but a:=fun ⟨h0,h1⟩=>⟨h0,h1.elim .inl fun ⟨y,hy,e⟩=>by
 obtain ⟨r,hr⟩:=h.getI hy;exact .inr ⟨_,hr,e⟩⟩
theorem V5 {A B:List arcP} (h:Top A B) {but:Int} (hb:Pa A but):Pa B but:=hb.elim .inl fun ⟨y,hy⟩=>by
 obtain ⟨r,hr⟩:=h.getI hy;exact .inr ⟨_,hr⟩
theorem K7 {n:Nat} {fr:List (List Int)} {A B:List arcP} (h:Top A B) (hf:FR n fr A):FR n fr B:=by
 refine ⟨hf.1,fun x row hr a ha=>?_,fun a α β hα hβ=>?_⟩
 ·obtain ⟨α,β,h1,h2,h3⟩:=hf.2.1 x row hr a ha;obtain ⟨r,e1⟩:=h.getI h1;obtain ⟨q,e2⟩:=h.getI h2;exact ⟨_,_,e1,e2,h3⟩
 ·obtain ⟨r,e1⟩:=h.symm.getI hα;obtain ⟨q,e2⟩:=h.symm.getI hβ;exact hf.2.2 a ⟨α.to,r,α.twin⟩ ⟨β.to,q,β.twin⟩ e1 e2
theorem X2 {n:Nat} {C:Int} {A:List arcP} (hg:GA n C A) {but a:Int} {α:arcP} (hα:getI A a=some α) (h:exc A but α.twin):exc A but a:=by
 obtain ⟨i,rfl,hi⟩:=Bz hα;obtain ⟨j,y,t1,t2,t3,t4,t5⟩:=hg.tw i α hi;refine ⟨h.1,?_⟩;rcases h.2 with e|⟨z,hz,e⟩
 ·refine .inr ⟨y,?_,t3.symm⟩;rw [←e,t1,getI_nat];exact t2
 ·left;obtain ⟨b,hb,hzb⟩:=Bz hz;obtain ⟨j2,y2,s1,s2,s3,s4,s5⟩:=hg.tw b z hzb;rw [t1,s1] at e;have:j=j2:=by omega
  subst this;rw [t2] at s2;cases s2
  rw [hb,←s3,t3]
theorem Qv {α:Type} {n:Nat} {x:α} {i:Int} {y:α} (h:getI (List.replicate n x) i=some y):y=x:=by
 obtain ⟨k,rfl,hk⟩:=Bz h;rw [List.getElem?_replicate] at hk
 split at hk
 ·exact (Option.some.inj hk).symm
 ·cases hk
theorem Zy (n:Nat):cT (List.replicate n false)=0:=by
 unfold cT;rw [List.filter_replicate];rfl
structure PS (n:Nat) (C:Int) (A B:List arcP) (u v most but tot r:Int):Prop where
 ga:GA n C B
 top:Top A B
 sums:Sums A B
 ge:tot≤r
 le:tot≤most→r≤most
 wt:∀φ,W φ B=W φ A+(r-tot)*(φ u-φ v)
 keep:∀a:Int,exc A but a→getI B a=getI A a
 cut:r<most→∃S:Int→Bool,S u=true∧S v=false∧∀(a:Int) (α β:arcP),getI B a=some α→getI B α.twin=some β→¬exc A but a→S β.to=true→S α.to=false→α.room=0
theorem Qq {n:Nat} {C:Int} {fr:List (List Int)} {u v most but:Int} (hC:C≤1000000000000000) (hm:most≤1000000000000000) (hn:n≤100000) (hu:0≤u∧u<n) (hv:0≤v∧v<n) {F:Nat} (hF:n<F) :
  ∀(G:Nat) (tot:Int) (A:List arcP),GA n C A→FR n fr A→Pa A but→0≤tot→(most-tot).toNat<G→∃r,Ef F fr u v most but G tot A=some r∧PS n C A r.2 u v most but tot r.1
 | 0,_,_,_,_,_,_,h=>by omega
 | G+1,tot,A,hg,hfr,hb,h0,hG=>by
  have self:∀cut,PS n C A A u v most but tot tot:=fun cut=>⟨hg,Top.rfl A,Sums.rfl A,Int.le_refl _,fun h=>h,fun φ=>by rw [Int.sub_self,Int.zero_mul,Int.add_zero],fun _ _=>rfl,cut⟩
  by_cases hlt:tot<most
  ·have hlen:(fr.length:Int)=(n:Int):=by rw [hfr.1]
   have hby:mkI 8 (fr.length:Int) (-1:Int)=some (List.replicate n (-1)):=by
    unfold mkI;rw [hlen,if_pos ⟨by omega,by rw [Int.toNat_natCast];omega,by omega⟩,Int.toNat_natCast]
   have hme:mkI 1 (fr.length:Int) false=some (List.replicate n false):=by
    unfold mkI;rw [hlen,if_pos ⟨by omega,by rw [Int.toNat_natCast];omega,by omega⟩,Int.toNat_natCast]
   obtain ⟨m0,hm0⟩:=Do (l:=List.replicate n false) (i:=u) (by rw [List.length_replicate];exact hu);obtain ⟨met1,s1,s2,s3,s4⟩:=K0 (y:=true) hm0;rw [List.length_replicate] at s2;have hf0:=Qv hm0;subst hf0;have hc1:cT met1=1:=by
    obtain ⟨k,hk,hmk⟩:=Bz hm0;have:=(Bx s1).2.2;rw [this,hk,Int.toNat_natCast,T3 hmk,Zy]
   have only:∀y,getI met1 y=some true→y=u:=fun y hy=>by
    by_cases e:y=u
    ·exact e
    ·rw [s4 y e] at hy;have:=Qv hy;cases this
   have hI:BI n A but u met1 (List.replicate n (-1)) (fun _=>0):=⟨s2,List.length_replicate,s3,fun y hy=>by rw [hc1];omega,fun y hy hyu=>absurd (only y hy) hyu⟩;obtain ⟨met,by_,dep,e1,e2,e3⟩:=Wp hg hfr hb hn hv F met1 (List.replicate n (-1)) [u] (fun _=>0) hI (fun y hy=>by simp at hy;subst hy;exact s3) (fun y hy=>.inl (by rw [only y hy];exact List.mem_cons_self ..)) (by rw [hc1];exact Nat.le_refl _) (by rw [hc1,List.length_singleton];omega);have e0:∀mv,getI met v=some mv→Ef F fr u v most but (G+1) tot A=bif !mv then some (tot,A) else (ck (most-tot)).bind fun n0=>(G1 A by_ u F v n0).bind fun k=>(F1 by_ u k F v A).bind fun A2=>(ck (tot+k)).bind fun total2=>Ef F fr u v most but G total2 A2:=fun mv hmv=>by
    rw [Ef,decide_eq_true hlt];show ((mkI 8 (fr.length:Int) (-1:Int)).bind _)=_;rw [hby];show ((mkI 1 (fr.length:Int) false).bind _)=_;rw [hme];show ((Cb (List.replicate n false) u true).bind _)=_;rw [s1];show ((Q2 ⟨fr,A⟩ but v F met1 (List.replicate n (-1)) [u]).bind _)=_;rw [e1];show ((getI met v).bind _)=_;rw [hmv];rfl
   rcases e3 with hvt|⟨hvf,hcl⟩
   ·have hdep:dep v<F:=by have:=e2.cnt v hvt;have:=Ws met;rw [e2.lm] at this;omega
    obtain ⟨k,l1,l2,l3,l4⟩:=Rt e2 F v (most-tot) hvt hdep (by omega);obtain ⟨A2,f1,f2,f3,f4,f5,f6⟩:=Sh (E:=exc A but) (by omega:0≤k) hC F v A hg (fun a α ha he=>X2 hg ha he) l4 hdep;obtain ⟨r,g1,g2⟩:=Qq hC hm hn hu hv hF G (tot+k) A2 f2 (K7 f3 hfr) (V5 f3 hb) (by omega) (by omega);refine ⟨r,?_,g2.ga,f3.tr g2.top,Sums.tr f3 f4 g2.sums,by have:=g2.ge;omega,fun _=>g2.le (by omega),fun φ=>?_,fun a ha=>?_,fun h=>?_⟩
    ·rw [e0 true hvt];show ((ck (most-tot)).bind _)=_;rw [show ck (most-tot)=some (most-tot) by unfold ck;rw [if_pos ⟨by omega,by omega⟩]];show ((G1 A by_ u F v (most-tot)).bind _)=_;rw [l1];show ((F1 by_ u k F v A).bind _)=_;rw [f1];show ((ck (tot+k)).bind _)=_;rw [show ck (tot+k)=some (tot+k) by unfold ck;rw [if_pos ⟨by omega,by omega⟩]];exact g1
    ·rw [g2.wt,f5,Int.add_assoc,←Int.add_mul]
     congr 2
     omega
    ·rw [g2.keep a (Ub f3 ha),f6 a ha]
    ·obtain ⟨S,c1,c2,c3⟩:=g2.cut h;exact ⟨S,c1,c2,fun a α β h1 h2 h3=>c3 a α β h1 h2 fun h=>h3 (Ub f3.symm h)⟩
   ·refine ⟨(tot,A),(e0 false hvf).trans rfl,self fun _=>⟨fun y=>decide (getI met y=some true),decide_eq_true e2.mu,decide_eq_false (by rw [hvf];simp),fun a α β h1 h2 h3 h4 h5=>?_⟩⟩;obtain ⟨row,r1,r2⟩:=hfr.2.2 a α β h1 h2;have hr:0≤α.room:=by
     obtain ⟨i,rfl,hi⟩:=Bz h1;exact hg.room i α hi
    by_cases hp:0<α.room
    ·exact absurd (hcl β.to (of_decide_eq_true h4) row a α r1 r2 h1 hp h3) (of_decide_eq_false h5)
    ·omega
  ·refine ⟨(tot,A),?_,self fun h=>absurd h hlt⟩;rw [Ef,decide_eq_false hlt];rfl
end Go.Proofs.Ytbhjgebjojdohaa
namespace Go.Proofs.Ytbhjgebjojdohaa
open Go Go.RowKit Go.Eng
set_option maxRecDepth 10000
set_option linter.unusedVariables false
set_option linter.unusedSimpArgs false
structure prP where
 u:Int
 v:Int
 r:Int
 c:Int
 deriving Inhabited
def flatP:Nat→List prP→List arcP
 | _,[]=>[]
 | k,p::Q=>⟨p.v,p.r,2*(k:Int)+1⟩::⟨p.u,p.c,2*(k:Int)⟩::flatP (k+1) Q
theorem C6:∀(Q:List prP) (k:Nat),(flatP k Q).length=2*Q.length
 | [],_=>rfl
 | p::Q,k=>by rw [flatP,List.length_cons,List.length_cons,C6 Q,List.length_cons];omega
theorem Rk:∀(Q R:List prP) (k:Nat),flatP k (Q++R)=flatP k Q++flatP (k+Q.length) R
 | [],R,k=>rfl
 | p::Q,R,k=>by
  rw [List.cons_append,flatP,flatP,Rk Q R (k+1),List.length_cons,List.cons_append,List.cons_append,show k+1+Q.length=k+(Q.length+1) by omega]
theorem C2:∀{Q:List prP} {k e:Nat} {p:prP},Q[e]? = some p→(flatP k Q)[2*e]? = some ⟨p.v,p.r,2*((k+e:Nat):Int)+1⟩∧(flatP k Q)[2*e+1]? = some ⟨p.u,p.c,2*((k+e:Nat):Int)⟩
 | [],k,e,p,h=>by simp at h
 | q::Q,k,0,p,h=>by simp at h;subst h;exact ⟨rfl,rfl⟩
 | q::Q,k,e+1,p,h=>by
  simp only [List.getElem?_cons_succ] at h;have:=C2 (k:=k+1) h;rw [flatP,show 2*(e+1)=2*e+1+1 by omega,List.getElem?_cons_succ,List.getElem?_cons_succ,List.getElem?_cons_succ,List.getElem?_cons_succ,show k+(e+1)=k+1+e by omega];exact this
theorem Jl {Q:List prP} {i:Nat} {x:arcP} (h:(flatP 0 Q)[i]? = some x):∃(e:Nat) (p:prP),Q[e]? = some p∧((i=2*e∧x=⟨p.v,p.r,2*(e:Int)+1⟩)∨(i=2*e+1∧x=⟨p.u,p.c,2*(e:Int)⟩)):=by
 have hl:=(List.getElem?_eq_some_iff.1 h).1;rw [C6] at hl;have he:i/2<Q.length:=by omega
 have hg:=C2 (Q:=Q) (k:=0) (List.getElem?_eq_getElem he);rw [Nat.zero_add] at hg;refine ⟨i/2,Q[i/2],List.getElem?_eq_getElem he,?_⟩;rcases Nat.mod_two_eq_zero_or_one i with h2|h2
 ·left;have e:i=2*(i/2):=by omega
  refine ⟨e,?_⟩;rw [e,hg.1] at h;exact (Option.some.inj h).symm
 ·right;have e:i=2*(i/2)+1:=by omega
  refine ⟨e,?_⟩;rw [e,hg.2] at h;exact (Option.some.inj h).symm
def WQ (φ:Int→Int) (Q:List prP):Int:=(Q.map fun p=>p.r*φ p.v+p.c*φ p.u).sum
theorem Am (φ:Int→Int) (p:prP) (Q:List prP):WQ φ (p::Q)=p.r*φ p.v+p.c*φ p.u+WQ φ Q:=by unfold WQ;rw [List.map_cons,List.sum_cons]
theorem Sv (φ:Int→Int):∀(Q:List prP) (k:Nat),W φ (flatP k Q)=WQ φ Q
 | [],_=>rfl
 | p::Q,k=>by rw [flatP,K9,K9,Sv φ Q,Am];dsimp only;omega
theorem M6 (φ:Int→Int):∀{Q:List prP} {e:Nat} {p q:prP},Q[e]? = some p→WQ φ (Q.set e q)=WQ φ Q-(p.r*φ p.v+p.c*φ p.u)+(q.r*φ q.v+q.c*φ q.u)
 | [],e,p,q,h=>by simp at h
 | a::Q,0,p,q,h=>by simp at h;subst h;rw [List.set_cons_zero,Am,Am];omega
 | a::Q,e+1,p,q,h=>by
  simp only [List.getElem?_cons_succ] at h;rw [List.set_cons_succ,Am,Am,M6 φ h];omega
structure Sm (Q R:List prP):Prop where
 len:R.length=Q.length
 at_:∀(e:Nat) (p q:prP),Q[e]? = some p→R[e]? = some q→q.u=p.u∧q.v=p.v∧q.r+q.c=p.r+p.c
def NN (Q:List prP):Prop:=∀p∈Q,0≤p.r∧0≤p.c
theorem Sm.rfl (Q:List prP):Sm Q Q:=⟨by rfl,fun e p q h1 h2=>by rw [h1] at h2;cases h2;exact ⟨by rfl,by rfl,by rfl⟩⟩
theorem Sm.get {Q R:List prP} (h:Sm Q R) {e:Nat} {p:prP} (hp:Q[e]? = some p):∃q,R[e]? = some q∧q.u=p.u∧q.v=p.v∧q.r+q.c=p.r+p.c:=by
 have hl:=(List.getElem?_eq_some_iff.1 hp).1;have:e<R.length:=by rw [h.len];exact hl
 exact ⟨R[e],List.getElem?_eq_getElem this,h.at_ e p _ hp (List.getElem?_eq_getElem this)⟩
theorem Sm.symm {Q R:List prP} (h:Sm Q R):Sm R Q:=⟨h.len.symm,fun e p q h1 h2=>by
 obtain ⟨a,b,c⟩:=h.at_ e q p h2 h1;exact ⟨a.symm,b.symm,c.symm⟩⟩
theorem Sm.tr {Q R T:List prP} (h:Sm Q R) (k:Sm R T):Sm Q T:=⟨k.len.trans h.len,fun e p q h1 h2=>by
 obtain ⟨m,h3,a1,a2,a3⟩:=h.get h1;obtain ⟨b1,b2,b3⟩:=k.at_ e m q h3 h2;exact ⟨b1.trans a1,b2.trans a2,b3.trans a3⟩⟩
theorem Sm.tail {Q R:List prP} {p q:prP} (h:Sm (p::Q) (q::R)):Sm Q R∧q.u=p.u∧q.v=p.v∧q.r+q.c=p.r+p.c :=
 ⟨⟨by have:=h.len;simpa using this,fun e a b h1 h2=>h.at_ (e+1) a b (by simpa using h1) (by simpa using h2)⟩,h.at_ 0 p q (by rfl) (by rfl)⟩
theorem Jk {n:Nat} {C:Int} {Q:List prP} (h:∀p∈Q,(0≤p.u∧p.u<n)∧(0≤p.v∧p.v<n)∧0≤p.r∧0≤p.c∧p.r+p.c≤C):GA n C (flatP 0 Q):=by
 refine ⟨fun i x hx=>?_,fun i x hx=>?_,fun i x hx=>?_⟩
 ·obtain ⟨e,p,hp,⟨rfl,rfl⟩|⟨rfl,rfl⟩⟩:=Jl hx
  ·exact (h p (List.mem_of_getElem? hp)).2.1
  ·exact (h p (List.mem_of_getElem? hp)).1
 ·obtain ⟨e,p,hp,⟨rfl,rfl⟩|⟨rfl,rfl⟩⟩:=Jl hx
  ·have hg:=(C2 (k:=0) hp).2;refine ⟨2*e+1,_,by dsimp only;omega,hg,by dsimp only;omega,by omega,?_⟩;have:=h p (List.mem_of_getElem? hp);dsimp only;omega
  ·have hg:=(C2 (k:=0) hp).1;refine ⟨2*e,_,by dsimp only;omega,hg,by dsimp only;omega,by omega,?_⟩;have:=h p (List.mem_of_getElem? hp);dsimp only;omega
 ·obtain ⟨e,p,hp,⟨rfl,rfl⟩|⟨rfl,rfl⟩⟩:=Jl hx
  ·exact (h p (List.mem_of_getElem? hp)).2.2.1
  ·exact (h p (List.mem_of_getElem? hp)).2.2.2.1
theorem A17 {n:Nat} {C:Int} {Q:List prP} {B:List arcP} (ht:Top (flatP 0 Q) B) (hs:Sums (flatP 0 Q) B) (hg:GA n C B):∃R,B=flatP 0 R∧Sm Q R∧NN R:=by
 have hat:∀(e:Nat) (p:prP),Q[e]? = some p→∃r c:Int,B[2*e]? = some ⟨p.v,r,2*(e:Int)+1⟩∧B[2*e+1]? = some ⟨p.u,c,2*(e:Int)⟩∧r+c=p.r+p.c:=fun e p hp=>by
  have hg:=C2 (k:=0) hp;rw [Nat.zero_add] at hg;obtain ⟨r,hr⟩:=ht.2 _ _ hg.1;obtain ⟨c,hc⟩:=ht.2 _ _ hg.2;exact ⟨r,c,hr,hc,hs _ _ _ _ _ _ hg.1 hg.2 (by dsimp only;omega) hr hc⟩
 let R:=Q.mapIdx fun e p=>(⟨p.u,p.v,(B.getD (2*e) default).room,(B.getD (2*e+1) default).room⟩:prP)
 have hR:∀(e:Nat) (p:prP) (r c:Int),Q[e]? = some p→B[2*e]? = some ⟨p.v,r,2*(e:Int)+1⟩→B[2*e+1]? = some ⟨p.u,c,2*(e:Int)⟩→R[e]? = some ⟨p.u,p.v,r,c⟩:=fun e p r c hp h1 h2=>by
  show (Q.mapIdx _)[e]? = _;rw [List.getElem?_mapIdx,hp];show some _=_;rw [List.getD_eq_getElem?_getD,List.getD_eq_getElem?_getD,h1,h2];rfl
 have hlen:R.length=Q.length:=List.length_mapIdx;have hB:B=flatP 0 R:=by
  apply List.ext_getElem?;intro i
  by_cases hi:i<2*Q.length
  ·have he:i/2<Q.length:=by omega
   have hp:Q[i/2]? = some Q[i/2]:=List.getElem?_eq_getElem he;obtain ⟨r,c,h1,h2,h3⟩:=hat _ _ hp;have hq:=C2 (k:=0) (hR _ _ r c hp h1 h2);rw [Nat.zero_add] at hq;rcases Nat.mod_two_eq_zero_or_one i with h2'|h2'
   ·have e:i=2*(i/2):=by omega
    rw [e,h1,hq.1]
   ·have e:i=2*(i/2)+1:=by omega
    rw [e,h2,hq.2]
  ·rw [List.getElem?_eq_none (by rw [ht.1,C6];omega),List.getElem?_eq_none (by rw [C6,hlen];omega)]
 refine ⟨R,hB,⟨hlen,fun e p q hp hq=>?_⟩,fun q hq=>?_⟩
 ·obtain ⟨r,c,h1,h2,h3⟩:=hat e p hp;rw [hR e p r c hp h1 h2] at hq
  cases hq
  exact ⟨rfl,rfl,h3⟩
 ·obtain ⟨e,he⟩:=List.mem_iff_getElem?.1 hq;have hg2:=C2 (k:=0) he;rw [←hB] at hg2;exact ⟨hg.room _ _ hg2.1,hg.room _ _ hg2.2⟩
def ind (S:Int→Bool) (x:Int):Int:=if S x=true then 1 else 0
theorem T5 {S:Int→Bool}:∀{Q R:List prP},Sm Q R→NN R→(∀p∈Q,(S p.u=true→S p.v=false→p.r=0)∧(S p.v=true→S p.u=false→p.c=0))→WQ (ind S) R≤WQ (ind S) Q
 | [],[],_,_,_=>Int.le_refl _
 | [],_::_,h,_,_=>by have:=h.len;simp at this
 | _::_,[],h,_,_=>by have:=h.len;simp at this
 | p::Q,q::R,h,hn,hc=>by
  obtain ⟨ht,e1,e2,e3⟩:=h.tail;have ih:=T5 ht (fun x hx=>hn x (List.mem_cons_of_mem _ hx)) (fun x hx=>hc x (List.mem_cons_of_mem _ hx));have hq:=hn q (List.mem_cons_self ..);have hp:=hc p (List.mem_cons_self ..);rw [Am,Am,e1,e2];unfold ind at ih ⊢
  cases hu:S p.u<;>cases hv:S p.v<;>simp only [hu,hv,if_true,Bool.false_eq_true,if_false,Int.mul_one,Int.mul_zero] at hp ⊢<;>simp at hp<;>omega
end Go.Proofs.Ytbhjgebjojdohaa
namespace Go.Proofs.Ytbhjgebjojdohaa
open Go Go.RowKit Go.Eng
set_option maxRecDepth 10000
set_option linter.unusedVariables false
set_option linter.unusedSimpArgs false
theorem Xg {α:Type} {l:List α} {i:Int} {x:α} (h:getI l i=some x):x∈l:=by
 obtain ⟨k,_,hk⟩:=Bz h;exact List.mem_of_getElem? hk
theorem Xh {α:Type} {l l2:List α} {i:Int} {x y:α} (h:Cb l i x=some l2) (hy:y∈l2):y=x∨y∈l:=by
 obtain ⟨_,_,rfl⟩:=Bx h;exact (List.mem_or_eq_of_mem_set hy).symm
structure NQ (n:Nat) (Q:List prP) (t:netP):Prop where
 arcs:t.arcs=flatP 0 Q
 fr:FR n t.fr t.arcs
 rows:∀row∈t.fr,row.length≤t.arcs.length
theorem Vh (Q:List prP) (u v room:Int):flatP 0 (Q++[⟨u,v,room,0⟩])=flatP 0 Q++[⟨v,room,((flatP 0 Q).length:Int)+1⟩,⟨u,0,((flatP 0 Q).length:Int)⟩]:=by
 rw [Rk,C6,Nat.zero_add,flatP,flatP]
 congr 3<;>(congr 1;omega)
theorem Mt {α:Type} {l k:List α} {i:Int} {x:α} (h:getI l i=some x):getI (l++k) i=some x:=by
 obtain ⟨j,rfl,hj⟩:=Bz h;rw [getI_nat,List.getElem?_append_left (List.getElem?_eq_some_iff.1 hj).1];exact hj
theorem Qc {α:Type} {l k:List α} {i:Int} {x:α} (h:getI (l++k) i=some x):getI l i=some x∨((l.length:Int)≤i∧k[i.toNat-l.length]? = some x):=by
 obtain ⟨j,rfl,hj⟩:=Bz h
 by_cases e:j<l.length
 ·left;rw [List.getElem?_append_left e] at hj;rw [getI_nat];exact hj
 ·right;rw [List.getElem?_append_right (by omega)] at hj;exact ⟨by omega,by rw [Int.toNat_natCast];exact hj⟩
theorem Sw {n:Nat} {C:Int} {Q:List prP} {t:netP} (h:NQ n Q t) (hg:GA n C t.arcs) {u v room:Int} (hu:0≤u∧u<n) (hv:0≤v∧v<n) (huv:u≠v) (hl:Q.length≤1000000) :
  ∃t2,Ho t u v room=some (t2,2*(Q.length:Int))∧NQ n (Q++[⟨u,v,room,0⟩]) t2:=by
 obtain ⟨ru,hru⟩:=Do (l:=t.fr) (i:=u) (by rw [h.fr.1];exact hu);obtain ⟨rv,hrv⟩:=Do (l:=t.fr) (i:=v) (by rw [h.fr.1];exact hv);have hL:t.arcs.length=2*Q.length:=by rw [h.arcs,C6]
 have b1:=h.rows ru (Xg hru);have b2:=h.rows rv (Xg hrv);have ap1:apd 8 ru [(t.arcs.length:Int)]=some (ru++[(t.arcs.length:Int)]):=by
  unfold apd;rw [if_pos ⟨by rw [List.length_singleton];omega,by rw [List.length_singleton];omega⟩]
 have ap2:apd 8 rv [(t.arcs.length:Int)+1]=some (rv++[(t.arcs.length:Int)+1]):=by
  unfold apd;rw [if_pos ⟨by rw [List.length_singleton];omega,by rw [List.length_singleton];omega⟩]
 obtain ⟨f1,s1,s2,s3,s4⟩:=K0 (y:=ru++[(t.arcs.length:Int)]) hru;have hrv1:getI f1 v=some rv:=by rw [s4 v (fun e=>huv e.symm)];exact hrv
 obtain ⟨f2,r1,r2,r3,r4⟩:=K0 (y:=rv++[(t.arcs.length:Int)+1]) hrv1;have e2:flatP 0 (Q++[⟨u,v,room,0⟩])=t.arcs++[⟨v,room,(t.arcs.length:Int)+1⟩,⟨u,0,(t.arcs.length:Int)⟩]:=by rw [Vh,h.arcs]
 have gL:getI (t.arcs++[⟨v,room,(t.arcs.length:Int)+1⟩,⟨u,0,(t.arcs.length:Int)⟩]) (t.arcs.length:Int)=some ⟨v,room,(t.arcs.length:Int)+1⟩:=by
  rw [getI_nat,List.getElem?_append_right (Nat.le_refl _),Nat.sub_self];rfl
 have gL1:getI (t.arcs++[⟨v,room,(t.arcs.length:Int)+1⟩,⟨u,0,(t.arcs.length:Int)⟩]) ((t.arcs.length:Int)+1)=some ⟨u,0,(t.arcs.length:Int)⟩:=by
  rw [show (t.arcs.length:Int)+1=((t.arcs.length+1:Nat):Int) by omega,getI_nat,List.getElem?_append_right (by omega),Nat.add_sub_cancel_left];rfl
 refine ⟨⟨f2,t.arcs++[⟨v,room,(t.arcs.length:Int)+1⟩,⟨u,0,(t.arcs.length:Int)⟩]⟩,?_,e2.symm,⟨r2.trans (s2.trans h.fr.1),fun x row hx a ha=>?_,fun a α β hα hβ=>?_⟩,fun row hrow=>?_⟩
 ·unfold Ho;rw [if_neg huv,hru];show ((apd 8 ru [(t.arcs.length:Int)]).bind _)=_;rw [ap1];show ((getI t.fr v).bind _)=_;rw [hrv];show ((apd 8 rv [(t.arcs.length:Int)+1]).bind _)=_;rw [ap2];show ((Cb t.fr u _).bind _)=_;rw [s1];show ((Cb f1 v _).bind _)=_;rw [r1];show some (_,_)=_;rw [hL];simp
 ·have old:∀row,getI t.fr x=some row→a∈row→∃(α β:arcP),getI (t.arcs++[⟨v,room,(t.arcs.length:Int)+1⟩,⟨u,0,(t.arcs.length:Int)⟩]) a=some α∧getI (t.arcs++[⟨v,room,(t.arcs.length:Int)+1⟩,⟨u,0,(t.arcs.length:Int)⟩]) α.twin=some β∧β.to=x:=fun row hr ha=>by
   obtain ⟨α,β,h1,h2,h3⟩:=h.fr.2.1 x row hr a ha;exact ⟨α,β,Mt h1,Mt h2,h3⟩
  by_cases hxv:x=v
  ·subst hxv;rw [r3] at hx;cases hx
   rcases List.mem_append.1 ha with ha|ha
   ·exact old rv hrv ha
   ·simp at ha;subst ha;exact ⟨_,_,gL1,gL,rfl⟩
  ·rw [r4 x hxv] at hx
   by_cases hxu:x=u
   ·subst hxu;rw [s3] at hx;cases hx
    rcases List.mem_append.1 ha with ha|ha
    ·exact old ru hru ha
    ·simp at ha;subst ha;exact ⟨_,_,gL,gL1,rfl⟩
   ·rw [s4 x hxu] at hx;exact old row hx ha
 ·have grow:∀x row,getI t.fr x=some row→a∈row→∃row2,getI f2 x=some row2∧a∈row2:=fun x row hr ha=>by
   by_cases hxv:x=v
   ·subst hxv;rw [hrv] at hr;cases hr
    exact ⟨_,r3,List.mem_append_left _ ha⟩
   ·by_cases hxu:x=u
    ·subst hxu;rw [hru] at hr;cases hr
     exact ⟨_,by rw [r4 x hxv];exact s3,List.mem_append_left _ ha⟩
    ·exact ⟨row,by rw [r4 x hxv,s4 x hxu];exact hr,ha⟩
  rcases Qc hα with hα|⟨hge,hα⟩
  ·have hβ2:getI t.arcs α.twin=some β:=by
    obtain ⟨i,rfl,hi⟩:=Bz hα;obtain ⟨j,y,t1,t2,t3,t4,t5⟩:=hg.tw i α hi;have:getI t.arcs α.twin=some y:=by rw [t1,getI_nat];exact t2
    rw [Mt this] at hβ;cases hβ
    exact this
   obtain ⟨row,q1,q2⟩:=h.fr.2.2 a α β hα hβ2;exact grow _ row q1 q2
  ·generalize hk:a.toNat-t.arcs.length=k at hα;rcases k with _|_|k
   ·simp at hα;subst hα;rw [gL1] at hβ;cases hβ
    have:a=(t.arcs.length:Int):=by omega
    refine ⟨_,by rw [r4 u huv];exact s3,?_⟩;rw [this];simp
   ·simp at hα;subst hα;rw [gL] at hβ;cases hβ
    have:a=(t.arcs.length:Int)+1:=by omega
    refine ⟨_,r3,?_⟩;rw [this];simp
   ·simp at hα
 ·show row.length≤(t.arcs++[_,_]).length;rw [List.length_append];simp only [List.length_cons,List.length_nil];rcases Xh r1 hrow with rfl|hrow
  ·rw [List.length_append,List.length_singleton];omega
  ·rcases Xh s1 hrow with rfl|hrow
   ·rw [List.length_append,List.length_singleton];omega
   ·have:=h.rows row hrow;omega
end Go.Proofs.Ytbhjgebjojdohaa
namespace Go.Proofs.Ytbhjgebjojdohaa
open Go Go.RowKit Go.Eng
set_option maxRecDepth 10000
set_option linter.unusedVariables false
set_option linter.unusedSimpArgs false
structure cnP where
 u:Int
 v:Int
 lo:Int
 hi:Int
def prs (e0 e1:Int) (c:cnP):List prP:=⟨c.u,c.v,c.hi-c.lo,0⟩::(if 0<c.lo then [⟨e0,c.v,c.lo,0⟩,⟨c.u,e1,c.lo,0⟩] else [])
def netQ (e0 e1:Int) (M:List cnP):List prP:=M.flatMap (prs e0 e1)
theorem Pm (e0 e1:Int) (M:List cnP) (c:cnP):netQ e0 e1 (M++[c])=netQ e0 e1 M++prs e0 e1 c:=by unfold netQ;rw [List.flatMap_append,List.flatMap_cons,List.flatMap_nil,List.append_nil]
theorem Z7 (e0 e1:Int) (c:cnP):(prs e0 e1 c).length≤3:=by unfold prs;split<;>simp
theorem Rz (e0 e1:Int):∀M:List cnP,(netQ e0 e1 M).length≤3*M.length
 | []=>Nat.le_refl _
 | c::M=>by
  have:=Rz e0 e1 M;have:=Z7 e0 e1 c;unfold netQ at *;rw [List.flatMap_cons,List.length_append,List.length_cons];omega
def sumLo (M:List cnP):Int:=(M.map (·.lo)).sum
theorem No (M:List cnP) (c:cnP):sumLo (M++[c])=sumLo M+c.lo:=by unfold sumLo;rw [List.map_append,List.sum_append];simp
structure okC (n:Nat) (e0 e1:Int) (c:cnP):Prop where
 u:0≤c.u∧c.u<n
 v:0≤c.v∧c.v<n
 uv:c.u≠c.v
 u0:c.u≠e0
 u1:c.u≠e1
 v0:c.v≠e0
 v1:c.v≠e1
 lo:0≤c.lo
 le:c.lo≤c.hi
 hi:c.hi≤1073741824
structure TN (n:Nat) (e0 e1:Int) (M:List cnP) (t:tripP):Prop where
 net:NQ n (netQ e0 e1 M) t.net
 need:t.need=sumLo M
 ok:∀c∈M,okC n e0 e1 c
 e0:t.e0=e0
 e1:t.e1=e1
theorem Qk {n:Nat} {e0 e1:Int} (h0:0≤e0∧e0<n) (h1:0≤e1∧e1<n) {M:List cnP} (h:∀c∈M,okC n e0 e1 c):∀p∈netQ e0 e1 M,(0≤p.u∧p.u<n)∧(0≤p.v∧p.v<n)∧0≤p.r∧0≤p.c∧p.r+p.c≤1073741824:=by
 intro p hp;obtain ⟨c,hc,hp⟩:=List.mem_flatMap.1 hp;have k:=h c hc;have:=k.lo;have:=k.le;have:=k.hi;unfold prs at hp;rcases List.mem_cons.1 hp with rfl|hp
 ·exact ⟨k.u,k.v,by dsimp only;omega,by dsimp only;omega,by dsimp only;omega⟩
 ·split at hp
  ·simp at hp;rcases hp with rfl|rfl
   ·exact ⟨h0,k.v,by dsimp only;omega,by dsimp only;omega,by dsimp only;omega⟩
   ·exact ⟨k.u,h1,by dsimp only;omega,by dsimp only;omega,by dsimp only;omega⟩
  ·cases hp
theorem Qh {n:Nat} {e0 e1:Int} (h0:0≤e0∧e0<n) (h1:0≤e1∧e1<n) {M:List cnP} {t:tripP} (h:TN n e0 e1 M t) (hM:M.length≤1000) (hs:sumLo M≤1073741824*(M.length:Int)) {u v:Int} {s:api_Span} (hc:okC n e0 e1 ⟨u,v,s.Lo,s.Hi⟩) :
  ∃t2,Gf t u v s=some (t2,2*((netQ e0 e1 M).length:Int))∧TN n e0 e1 (M++[⟨u,v,s.Lo,s.Hi⟩]) t2∧t2.gates=t.gates∧t2.lows=t.lows:=by
 have hq:=Rz e0 e1 M;have k1:=hc.lo;have k2:=hc.le;have k3:=hc.hi;dsimp only at k1 k2 k3;have hsm:0≤sumLo M:=by
  have:∀L:List cnP,(∀c∈L,0≤c.lo)→0≤sumLo L:=by
   intro L
   induction L with
   | nil=>intro _;exact Int.le_refl _
   | cons c L ih=>intro hL;have:=hL c (List.mem_cons_self ..);have:=ih fun x hx=>hL x (List.mem_cons_of_mem _ hx);unfold sumLo at *;rw [List.map_cons,List.sum_cons];omega
  exact this M fun c hc=>(h.ok c hc).lo
 have ga0:GA n 1073741824 t.net.arcs:=by rw [h.net.arcs];exact Jk (Qk h0 h1 h.ok)
 have ck1:ck (s.Hi-s.Lo)=some (s.Hi-s.Lo):=by unfold ck;rw [if_pos ⟨by omega,by omega⟩]
 obtain ⟨t1,a1,n1⟩:=Sw (room:=s.Hi-s.Lo) h.net ga0 hc.u hc.v hc.uv (by omega);have ok':∀c∈M++[⟨u,v,s.Lo,s.Hi⟩],okC n e0 e1 c:=fun c hc'=>by
  rcases List.mem_append.1 hc' with h'|h'
  ·exact h.ok c h'
  ·simp at h';subst h';exact hc
 have bnd:∀(Q:List prP),(∀p∈Q,(0≤p.u∧p.u<n)∧(0≤p.v∧p.v<n)∧0≤p.r∧0≤p.c∧p.r+p.c≤1073741824)→∀p:prP,((0≤p.u∧p.u<n)∧(0≤p.v∧p.v<n)∧0≤p.r∧0≤p.c∧p.r+p.c≤1073741824)→∀x∈Q++[p],(0≤x.u∧x.u<n)∧(0≤x.v∧x.v<n)∧0≤x.r∧0≤x.c∧x.r+x.c≤1073741824:=fun Q hQ p hp x hx=>by
  rcases List.mem_append.1 hx with h'|h'
  ·exact hQ x h'
  ·simp at h';subst h';exact hp
 have B0:=Qk h0 h1 h.ok;have B1:=bnd _ B0 ⟨u,v,s.Hi-s.Lo,0⟩ ⟨hc.u,hc.v,by dsimp only;omega,by dsimp only;omega,by dsimp only;omega⟩;have head:Gf t u v s=bif decide (s.Lo>0) then (Ho t1 t.e0 v s.Lo).bind fun r2=>(Ho r2.1 u t.e1 s.Lo).bind fun r3=>(ck (t.need+s.Lo)).bind fun z=>some ({ t with net:=r3.1,need:=z },2*((netQ e0 e1 M).length:Int)) else some ({ t with net:=t1 },2*((netQ e0 e1 M).length:Int)):=by
  unfold Gf;rw [ck1];show ((Ho t.net u v (s.Hi-s.Lo)).bind _)=_;rw [a1];rfl
 by_cases hp:s.Lo>0
 ·obtain ⟨t2,a2,n2⟩:=Sw (room:=s.Lo) (u:=e0) (v:=v) n1 (by rw [n1.arcs];exact Jk B1) h0 hc.v (fun e=>hc.v0 e.symm) (by rw [List.length_append,List.length_singleton];omega);have B2:=bnd _ B1 ⟨e0,v,s.Lo,0⟩ ⟨h0,hc.v,by dsimp only;omega,by dsimp only;omega,by dsimp only;omega⟩;obtain ⟨t3,a3,n3⟩:=Sw (room:=s.Lo) (u:=u) (v:=e1) n2 (by rw [n2.arcs];exact Jk B2) hc.u h1 hc.u1 (by rw [List.length_append,List.length_append,List.length_singleton,List.length_singleton];omega);refine ⟨{ t with net:=t3,need:=t.need+s.Lo },?_,⟨?_,?_,ok',h.e0,h.e1⟩,rfl,rfl⟩
  ·rw [head,decide_eq_true hp,h.e0,h.e1];show ((Ho t1 e0 v s.Lo).bind _)=_;rw [a2];show ((Ho t2 u e1 s.Lo).bind _)=_;rw [a3];show ((ck (t.need+s.Lo)).bind _)=_;rw [show ck (t.need+s.Lo)=some (t.need+s.Lo) by unfold ck;rw [h.need,if_pos ⟨by omega,by omega⟩]];rfl
  ·rw [Pm];unfold prs;rw [if_pos (show (0:Int)<s.Lo from hp)];rw [List.append_assoc,List.append_assoc] at n3;exact n3
  ·rw [No,←h.need]
 ·refine ⟨{ t with net:=t1 },?_,⟨?_,?_,ok',h.e0,h.e1⟩,rfl,rfl⟩
  ·rw [head,decide_eq_false hp];rfl
  ·rw [Pm];unfold prs;rw [if_neg (show ¬(0:Int)<s.Lo from hp)];exact n1
  ·rw [No,←h.need];show t.need=t.need+s.Lo;omega
end Go.Proofs.Ytbhjgebjojdohaa
namespace Go.Proofs.Ytbhjgebjojdohaa
open Go Go.RowKit Go.Eng
set_option maxRecDepth 10000
set_option linter.unusedVariables false
set_option linter.unusedSimpArgs false
theorem A9 {α β:Type} {o:Option α} {f:α→Option β} {x:α} (h:o=some x):o.bind f=f x:=by rw [h];rfl
theorem E8 (M:List cnP) (c:cnP):sumLo (c::M)=c.lo+sumLo M:=by unfold sumLo;rw [List.map_cons,List.sum_cons]
theorem F3 {n:Nat} {e0 e1:Int}:∀{M:List cnP},(∀c∈M,okC n e0 e1 c)→0≤sumLo M∧sumLo M≤1073741824*(M.length:Int)
 | [],_=>⟨Int.le_refl _,Int.le_refl _⟩
 | c::M,h=>by
  have:=F3 fun x hx=>h x (List.mem_cons_of_mem _ hx);have k:=h c (List.mem_cons_self ..);have:=k.lo;have:=k.le;have:=k.hi;rw [E8,List.length_cons];omega
def gS (gate:Int) (power:api_Span) (r:Nat):api_Span:=bif (r:Int)==gate then power else ⟨0,1073741824⟩
def gC (n m:Nat) (gate:Int) (power:api_Span) (r:Nat):cnP:=⟨((r%n:Nat):Int),((n+r%m:Nat):Int),(gS gate power r).Lo,(gS gate power r).Hi⟩
def gM (n m:Nat) (gate:Int) (power:api_Span) (k:Nat):List cnP:=(List.range k).map (gC n m gate power)
def gN (n m:Nat) (e0 e1 gate:Int) (power:api_Span) (k:Nat):List Int:=(List.range k).map fun r=>2*((netQ e0 e1 (gM n m gate power r)).length:Int)
def gL (gate:Int) (power:api_Span) (k:Nat):List Int:=(List.range k).map fun r=>(gS gate power r).Lo
theorem J3 {α:Type} (f:Nat→α) (k:Nat):(List.range (k+1)).map f=(List.range k).map f++[f k]:=by rw [List.range_succ,List.map_append];rfl
def okS (s:api_Span):Prop:=0≤s.Lo∧s.Lo≤s.Hi∧s.Hi≤1073741824
theorem Zl {gate:Int} {power:api_Span} (h:okS power) (r:Nat):okS (gS gate power r):=by
 unfold gS
 cases ((r:Int)==gate)
 ·exact (⟨by decide,by decide,by decide⟩:okS ⟨0,1073741824⟩)
 ·exact h
theorem A1k {n m:Nat} (hn:0<n) (hm:0<m) {gate:Int} {power:api_Span} (h:okS power) (r:Nat):okC (n+m+3) ((n:Int)+m+1) ((n:Int)+m+2) (gC n m gate power r):=by
 have h1:=Nat.mod_lt r hn;have h2:=Nat.mod_lt r hm;obtain ⟨a,b,c⟩:=Zl (gate:=gate) h r;exact ⟨by unfold gC;dsimp only;omega,by unfold gC;dsimp only;omega,by unfold gC;dsimp only;omega,by unfold gC;dsimp only;omega,by unfold gC;dsimp only;omega,by unfold gC;dsimp only;omega,by unfold gC;dsimp only;omega,a,b,c⟩
theorem Ro {n m:Nat} (hn:0<n∧n≤100) (hm:0<m∧m≤100) {gate:Int} {power:api_Span} (hp:okS power) {most:Nat} (hmo:most≤100):∀(F k:Nat) (t:tripP),TN (n+m+3) ((n:Int)+m+1) ((n:Int)+m+2) (gM n m gate power k) t→t.gates=gN n m ((n:Int)+m+1) ((n:Int)+m+2) gate power k→t.lows=gL gate power k→k≤most→most-k<F →
  ∃t2,Hx (n:Int) (m:Int) (most:Int) gate power F (k:Int) t=some t2∧TN (n+m+3) ((n:Int)+m+1) ((n:Int)+m+2) (gM n m gate power most) t2∧t2.gates=gN n m ((n:Int)+m+1) ((n:Int)+m+2) gate power most∧t2.lows=gL gate power most
 | 0,_,_,_,_,_,_,hF=>by omega
 | F+1,k,t,hT,hg,hl,hk,hF=>by
  by_cases hlt:k<most
  ·have hc:=A1k hn.1 hm.1 (gate:=gate) hp k;have hlen:(gM n m gate power k).length=k:=by unfold gM;rw [List.length_map,List.length_range]
   obtain ⟨t2,a1,a2,a3,a4⟩:=Qh (by omega) (by omega) hT (by rw [hlen];omega) (F3 hT.ok).2 (u:=((k%n:Nat):Int)) (v:=((n+k%m:Nat):Int)) (s:=gS gate power k) hc;have eM:gM n m gate power k++[⟨((k%n:Nat):Int),((n+k%m:Nat):Int),(gS gate power k).Lo,(gS gate power k).Hi⟩]=gM n m gate power (k+1):=by unfold gM;rw [J3];rfl
   rw [eM] at a2;have hgl:t2.gates.length=k:=by rw [a3,hg];unfold gN;rw [List.length_map,List.length_range]
   have hll:t2.lows.length=k:=by rw [a4,hl];unfold gL;rw [List.length_map,List.length_range]
   obtain ⟨t4,b1,b2,b3,b4⟩:=Ro hn hm hp hmo F (k+1) { t2 with gates:=t2.gates++[2*((netQ ((n:Int)+m+1) ((n:Int)+m+2) (gM n m gate power k)).length:Int)],lows:=t2.lows++[(gS gate power k).Lo] } ⟨a2.net,a2.need,a2.ok,a2.e0,a2.e1⟩ (by dsimp only;rw [a3,hg];unfold gN;rw [J3]) (by dsimp only;rw [a4,hl];unfold gL;rw [J3]) (by omega) (by omega);refine ⟨t4,?_,b2,b3,b4⟩;have hkm:=Nat.mod_lt k hm.1;rw [Hx,decide_eq_true (by omega:(k:Int)<(most:Int)),cond_true];rw [A9 (show By (k:Int) (n:Int)=some ((k%n:Nat):Int) by unfold By;rw [if_neg (by omega)];rfl)];rw [A9 (show By (k:Int) (m:Int)=some ((k%m:Nat):Int) by unfold By;rw [if_neg (by omega)];rfl)];rw [A9 (show ck ((n:Int)+((k%m:Nat):Int))=some ((n+k%m:Nat):Int) by unfold ck;rw [if_pos ⟨by omega,by omega⟩,Int.natCast_add])];have eS:(bif (k:Int)==gate then power else (⟨0,1073741824⟩:api_Span))=gS gate power k:=by rw [gS]
   rw [eS,A9 a1];rw [A9 (show apd 8 t2.gates [2*((netQ ((n:Int)+m+1) ((n:Int)+m+2) (gM n m gate power k)).length:Int)]=some (t2.gates++[2*((netQ ((n:Int)+m+1) ((n:Int)+m+2) (gM n m gate power k)).length:Int)]) by unfold apd;rw [if_pos ⟨by rw [hgl,List.length_singleton];omega,by rw [hgl,List.length_singleton];omega⟩])];rw [A9 (show apd 8 t2.lows [(gS gate power k).Lo]=some (t2.lows++[(gS gate power k).Lo]) by unfold apd;rw [if_pos ⟨by rw [hll,List.length_singleton];omega,by rw [hll,List.length_singleton];omega⟩])];rw [A9 (show ck ((k:Int)+1)=some ((k+1:Nat):Int) by unfold ck;rw [if_pos ⟨by omega,by omega⟩,Int.natCast_add];rfl)];exact b1
  ·have hk2:k=most:=by omega
   subst hk2;refine ⟨t,?_,hT,hg,hl⟩;rw [Hx,decide_eq_false (by omega:¬(k:Int)<(k:Int))];rfl
def aM (c:Int):Nat→List api_Span→List cnP
 | _,[]=>[]
 | i,s::l=>⟨c,(i:Int),s.Lo,s.Hi⟩::aM c (i+1) l
def bM (n:Nat) (c:Int):Nat→List api_Span→List cnP
 | _,[]=>[]
 | i,s::l=>⟨((n+i:Nat):Int),c,s.Lo,s.Hi⟩::bM n c (i+1) l
theorem Ze {n m:Nat} (hn:n≤100) (hm:m≤100):∀(l:List api_Span) (i:Nat) (M:List cnP) (t:tripP),(∀s∈l,okS s)→i+l.length≤n→M.length+l.length≤1000→TN (n+m+3) ((n:Int)+m+1) ((n:Int)+m+2) M t →
  ∃t2,asP ((n:Int)+m) l (i:Int) t=some t2∧TN (n+m+3) ((n:Int)+m+1) ((n:Int)+m+2) (M++aM ((n:Int)+m) i l) t2∧t2.gates=t.gates∧t2.lows=t.lows
 | [],i,M,t,_,_,_,hT=>⟨t,rfl,by rw [aM,List.append_nil];exact hT,rfl,rfl⟩
 | s::l,i,M,t,hs,hi,hM,hT=>by
  rw [List.length_cons] at hi hM;obtain ⟨k1,k2,k3⟩:=hs s (List.mem_cons_self ..);obtain ⟨t2,a1,a2,a3,a4⟩:=Qh (by omega) (by omega) hT (by omega) (F3 hT.ok).2 (u:=(n:Int)+m) (v:=(i:Int)) (s:=s) ⟨by dsimp only;omega,by dsimp only;omega,by dsimp only;omega,by dsimp only;omega,by dsimp only;omega,by dsimp only;omega,by dsimp only;omega,k1,k2,k3⟩;obtain ⟨t4,b1,b2,b3,b4⟩:=Ze hn hm l (i+1) _ t2 (fun x hx=>hs x (List.mem_cons_of_mem _ hx)) (by omega) (by rw [List.length_append,List.length_singleton];omega) a2;refine ⟨t4,?_,?_,b3.trans a3,b4.trans a4⟩
  ·rw [asP,a1];show asP ((n:Int)+m) l ((i:Int)+1) t2=_;rw [show (i:Int)+1=((i+1:Nat):Int) by omega];exact b1
  ·rw [List.append_assoc] at b2;exact b2
theorem Zg {n m:Nat} (hn:n≤100) (hm:m≤100):∀(l:List api_Span) (i:Nat) (M:List cnP) (t:tripP),(∀s∈l,okS s)→i+l.length≤m→M.length+l.length≤1000→TN (n+m+3) ((n:Int)+m+1) ((n:Int)+m+2) M t →
  ∃t2,bsP (n:Int) ((n:Int)+m) l (i:Int) t=some t2∧TN (n+m+3) ((n:Int)+m+1) ((n:Int)+m+2) (M++bM n ((n:Int)+m) i l) t2∧t2.gates=t.gates∧t2.lows=t.lows
 | [],i,M,t,_,_,_,hT=>⟨t,rfl,by rw [bM,List.append_nil];exact hT,rfl,rfl⟩
 | s::l,i,M,t,hs,hi,hM,hT=>by
  rw [List.length_cons] at hi hM;obtain ⟨k1,k2,k3⟩:=hs s (List.mem_cons_self ..);obtain ⟨t2,a1,a2,a3,a4⟩:=Qh (by omega) (by omega) hT (by omega) (F3 hT.ok).2 (u:=((n+i:Nat):Int)) (v:=(n:Int)+m) (s:=s) ⟨by dsimp only;omega,by dsimp only;omega,by dsimp only;omega,by dsimp only;omega,by dsimp only;omega,by dsimp only;omega,by dsimp only;omega,k1,k2,k3⟩;obtain ⟨t4,b1,b2,b3,b4⟩:=Zg hn hm l (i+1) _ t2 (fun x hx=>hs x (List.mem_cons_of_mem _ hx)) (by omega) (by rw [List.length_append,List.length_singleton];omega) a2;refine ⟨t4,?_,?_,b3.trans a3,b4.trans a4⟩
  ·rw [bsP,show ck ((n:Int)+(i:Int))=some ((n+i:Nat):Int) by unfold ck;rw [if_pos ⟨by omega,by omega⟩];rfl];show ((Gf t ((n+i:Nat):Int) ((n:Int)+m) s).bind _)=_;rw [a1];show bsP (n:Int) ((n:Int)+m) l ((i:Int)+1) t2=_;rw [show (i:Int)+1=((i+1:Nat):Int) by omega];exact b1
  ·rw [List.append_assoc] at b2;exact b2
theorem Ka (c:Int):∀(l:List api_Span) (i:Nat),(aM c i l).length=l.length
 | [],_=>rfl
 | s::l,i=>by rw [aM,List.length_cons,Ka c l,List.length_cons]
theorem T0 (n:Nat) (c:Int):∀(l:List api_Span) (i:Nat),(bM n c i l).length=l.length
 | [],_=>rfl
 | s::l,i=>by rw [bM,List.length_cons,T0 n c l,List.length_cons]
def D4 (a b:List api_Span) (most:Nat) (gate:Int) (power:api_Span):List cnP:=gM a.length b.length gate power most++aM ((a.length:Int)+(b.length:Int)) 0 a++bM a.length ((a.length:Int)+(b.length:Int)) 0 b
theorem Mr {a b:List api_Span} (ha:0<a.length∧a.length≤100) (hb:0<b.length∧b.length≤100) (has:∀s∈a,okS s) (hbs:∀s∈b,okS s) {most:Nat} (hmo:most≤100) {gate:Int} {power:api_Span} (hp:okS power) {F:Nat} (hF:1000000000000≤F) :
  ∃(t:tripP) (r:Int×List arcP),F7 F a b (most:Int) gate power=some ({ t with net:=⟨t.net.fr,r.2⟩ },r.1==t.need)∧TN (a.length+b.length+3) ((a.length:Int)+b.length+1) ((a.length:Int)+b.length+2) (D4 a b most gate power) t ∧
   t.gates=gN a.length b.length ((a.length:Int)+b.length+1) ((a.length:Int)+b.length+2) gate power most∧t.lows=gL gate power most∧PS (a.length+b.length+3) 1073741824 t.net.arcs r.2 ((a.length:Int)+b.length+1) ((a.length:Int)+b.length+2) t.need (-1) 0 r.1:=by
 have hT0:TN (a.length+b.length+3) ((a.length:Int)+b.length+1) ((a.length:Int)+b.length+2) (gM a.length b.length gate power 0) ⟨⟨List.replicate (a.length+b.length+3) [],[]⟩,0,(a.length:Int)+b.length+1,(a.length:Int)+b.length+2,[],[]⟩:=by
  refine ⟨⟨rfl,⟨List.length_replicate,fun x row hr q hq=>?_,fun q α β h1 _=>?_⟩,fun row hr=>?_⟩,rfl,fun c hc=>?_,rfl,rfl⟩
  ·rw [Qv hr] at hq;cases hq
  ·have:=Bz h1;obtain ⟨k,_,hk⟩:=this;cases hk
  ·rw [(List.mem_replicate.1 hr).2];exact Nat.zero_le _
  ·cases hc
 obtain ⟨t1,a1,a2,a3,a4⟩:=Ro ha hb hp hmo F 0 _ hT0 rfl rfl (Nat.zero_le _) (by omega);have hgl:(gM a.length b.length gate power most).length=most:=by unfold gM;rw [List.length_map,List.length_range]
 obtain ⟨t2,b1,b2,b3,b4⟩:=Ze ha.2 hb.2 a 0 _ t1 has (by omega) (by rw [hgl];omega) a2;obtain ⟨t3,c1,c2,c3,c4⟩:=Zg ha.2 hb.2 b 0 _ t2 hbs (by omega) (by rw [List.length_append,hgl,Ka];omega) b2;have hML:(D4 a b most gate power).length≤300:=by unfold D4;rw [List.length_append,List.length_append,hgl,Ka,T0];omega
 have hsum:=F3 c2.ok;have hneed:=c2.need;have hML2:((D4 a b most gate power).length:Int)≤300:=by omega
 change TN _ _ _ (D4 a b most gate power) t3 at c2
 have hsum2:0≤t3.need∧t3.need≤322122547200:=by
  rw [c2.need];have:=F3 c2.ok;omega
 have hga:GA (a.length+b.length+3) 1073741824 t3.net.arcs:=by rw [c2.net.arcs];exact Jk (Qk (by omega) (by omega) c2.ok)
 obtain ⟨r,d1,d2⟩:=Qq (C:=1073741824) (most:=t3.need) (but:=-1) (u:=(a.length:Int)+b.length+1) (v:=(a.length:Int)+b.length+2) (by omega) (by omega) (by omega) (by omega) (by omega) (F:=F) (by omega) F 0 t3.net.arcs hga c2.net.fr (.inl (by omega)) (Int.le_refl _) (by omega);refine ⟨t3,r,?_,c2,c3.trans (b3.trans a3),c4.trans (b4.trans a4),d2⟩;unfold F7;rw [A9 (show ck ((a.length:Int)+(b.length:Int))=some ((a.length:Int)+(b.length:Int)) by unfold ck;rw [if_pos ⟨by omega,by omega⟩])];rw [A9 (show ck ((a.length:Int)+(b.length:Int)+3)=some ((a.length:Int)+(b.length:Int)+3) by unfold ck;rw [if_pos ⟨by omega,by omega⟩])];rw [A9 (show mkI 24 ((a.length:Int)+(b.length:Int)+3) ([]:List Int)=some (List.replicate (a.length+b.length+3) []) by
  unfold mkI;rw [if_pos ⟨by omega,by omega,by omega⟩,show ((a.length:Int)+(b.length:Int)+3).toNat=a.length+b.length+3 by omega])]
 rw [A9 (show ck ((a.length:Int)+(b.length:Int)+1)=some ((a.length:Int)+(b.length:Int)+1) by unfold ck;rw [if_pos ⟨by omega,by omega⟩])];rw [A9 (show ck ((a.length:Int)+(b.length:Int)+2)=some ((a.length:Int)+(b.length:Int)+2) by unfold ck;rw [if_pos ⟨by omega,by omega⟩])];rw [show ((0:Nat):Int)=(0:Int) from rfl] at a1 b1 c1;rw [A9 a1,A9 b1,A9 c1,c2.e0,c2.e1];rw [A9 d1]
end Go.Proofs.Ytbhjgebjojdohaa
namespace Go.Proofs.Ytbhjgebjojdohaa
open Go Go.RowKit Go.Eng
set_option maxRecDepth 10000
set_option linter.unusedVariables false
set_option linter.unusedSimpArgs false
def cirV (φ:Int→Int):List cnP→List Int→Int
 | c::M,x::f=>x*(φ c.v-φ c.u)+cirV φ M f
 | _,_=>0
def bdF:List cnP→List Int→Prop
 | c::M,x::f=>c.lo≤x∧x≤c.hi∧bdF M f
 | [],[]=>True
 | _,_=>False
structure Circ (M:List cnP) (f:List Int):Prop where
 bd:bdF M f
 cv:∀φ,cirV φ M f=0
def rsP (e0 e1:Int):List cnP→List Int→List prP
 | c::M,x::f=>⟨c.u,c.v,c.hi-x,x-c.lo⟩::((if 0<c.lo then [⟨e0,c.v,0,c.lo⟩,⟨c.u,e1,0,c.lo⟩] else [])++rsP e0 e1 M f)
 | _,_=>[]
theorem He (e0 e1:Int) (c:cnP) (M:List cnP):netQ e0 e1 (c::M)=⟨c.u,c.v,c.hi-c.lo,0⟩::((if 0<c.lo then [⟨e0,c.v,c.lo,0⟩,⟨c.u,e1,c.lo,0⟩] else [])++netQ e0 e1 M):=by unfold netQ;rw [List.flatMap_cons];rfl
theorem Sm.cons {Q R:List prP} {p q:prP} (h:Sm Q R) (e1:q.u=p.u) (e2:q.v=p.v) (e3:q.r+q.c=p.r+p.c):Sm (p::Q) (q::R):=⟨by rw [List.length_cons,List.length_cons,h.len],fun e a b h1 h2=>by
 cases e with
 | zero=>simp at h1 h2;subst h1;subst h2;exact ⟨e1,e2,e3⟩
 | succ e=>exact h.at_ e a b (by simpa using h1) (by simpa using h2)⟩
theorem Gh {n:Nat} {e0 e1:Int}:∀{M:List cnP} {f:List Int},(∀c∈M,okC n e0 e1 c)→bdF M f→Sm (netQ e0 e1 M) (rsP e0 e1 M f)∧NN (rsP e0 e1 M f)∧∀φ,WQ φ (rsP e0 e1 M f)=WQ φ (netQ e0 e1 M)+sumLo M*(φ e0-φ e1)-cirV φ M f
 | [],[],_,_=>⟨Sm.rfl [],fun p hp=>(by cases hp),fun φ=>by show (0:Int)=0+0*_-0;omega⟩
 | [],_::_,_,h=>h.elim
 | _::_,[],_,h=>h.elim
 | c::M,x::f,hk,h=>by
  obtain ⟨b1,b2,b3⟩:=h;obtain ⟨i1,i2,i3⟩:=Gh (fun q hq=>hk q (List.mem_cons_of_mem _ hq)) b3;have k:=hk c (List.mem_cons_self ..);have l1:=k.lo;rw [He,rsP];have m1:∀φ:Int→Int,(c.hi-x)*φ c.v=c.hi*φ c.v-x*φ c.v:=fun φ=>Int.sub_mul _ _ _;have m2:∀φ:Int→Int,(x-c.lo)*φ c.u=x*φ c.u-c.lo*φ c.u:=fun φ=>Int.sub_mul _ _ _;have m3:∀φ:Int→Int,(c.hi-c.lo)*φ c.v=c.hi*φ c.v-c.lo*φ c.v:=fun φ=>Int.sub_mul _ _ _;have m4:∀φ:Int→Int,x*(φ c.v-φ c.u)=x*φ c.v-x*φ c.u:=fun φ=>Int.mul_sub _ _ _;have m5:∀φ:Int→Int,(c.lo+sumLo M)*(φ e0-φ e1)=c.lo*φ e0-c.lo*φ e1+sumLo M*(φ e0-φ e1):=fun φ=>by rw [Int.add_mul,Int.mul_sub c.lo]
  by_cases hp:0<c.lo
  ·rw [if_pos hp,if_pos hp];refine ⟨Sm.cons (Sm.cons (Sm.cons i1 (by rfl) (by rfl) (by dsimp only;omega)) (by rfl) (by rfl) (by dsimp only;omega)) (by rfl) (by rfl) (by dsimp only;omega),fun p hp'=>?_,fun φ=>?_⟩
   ·simp only [List.mem_cons,List.cons_append,List.nil_append] at hp';rcases hp' with rfl|rfl|rfl|hp'
    ·dsimp only;omega
    ·dsimp only;omega
    ·dsimp only;omega
    ·exact i2 p hp'
   ·rw [List.cons_append,List.cons_append,List.nil_append,List.cons_append,List.cons_append,List.nil_append,Am,Am,Am,Am,Am,Am,i3,E8,m5,cirV,m4];dsimp only;rw [m1,m2,m3];simp only [Int.zero_mul];omega
  ·have hz:c.lo=0:=by omega
   rw [if_neg hp,if_neg hp];refine ⟨Sm.cons i1 (by rfl) (by rfl) (by dsimp only;omega),fun p hp'=>?_,fun φ=>?_⟩
   ·simp only [List.mem_cons,List.nil_append] at hp';rcases hp' with rfl|hp'
    ·dsimp only;omega
    ·exact i2 p hp'
   ·rw [List.nil_append,List.nil_append,Am,Am,i3,E8,m5,cirV,m4];dsimp only;rw [m1,m2,m3,hz];simp only [Int.zero_mul];omega
def at1 (z x:Int):Int:=if x=z then 1 else 0
theorem Gd (z:Int):at1 z z=1:=if_pos rfl
theorem B7 {z x:Int} (h:x≠z):at1 z x=0:=if_neg h
theorem Nf {n:Nat} {e0 e1:Int} (he:e0≠e1):∀{M:List cnP} {Q:List prP},(∀c∈M,okC n e0 e1 c)→Sm (netQ e0 e1 M) Q→NN Q→WQ (at1 e0) Q≤sumLo M∧0≤WQ (at1 e1) Q∧(WQ (at1 e0) Q=sumLo M→WQ (at1 e1) Q=0→∃f,Q=rsP e0 e1 M f∧bdF M f)
 | [],[],_,_,_=>⟨Int.le_refl _,Int.le_refl _,fun _ _=>⟨[],rfl,trivial⟩⟩
 | [],_::_,_,h,_=>by have:=h.len;simp [netQ] at this
 | c::M,Q,hk,h,hn=>by
  have k:=hk c (List.mem_cons_self ..);have l1:=k.lo;have l2:=k.le;have hk':∀x∈M,okC n e0 e1 x:=fun q hq=>hk q (List.mem_cons_of_mem _ hq);rw [He] at h;rw [E8]
  by_cases hp:0<c.lo
  ·rw [if_pos hp] at h;rcases Q with _|⟨p,_|⟨h1,_|⟨h2,Q⟩⟩⟩
   ·have:=h.len;simp at this
   ·have:=h.len;simp at this
   ·have:=h.len;simp at this
   obtain ⟨t1,a1,a2,a3⟩:=h.tail;obtain ⟨t2,b1,b2,b3⟩:=Sm.tail t1;obtain ⟨t3,d1,d2,d3⟩:=Sm.tail t2;dsimp only at a1 a2 a3 b1 b2 b3 d1 d2 d3;obtain ⟨i1,i2,i3⟩:=Nf he hk' t3 (fun x hx=>hn x (by simp [hx]));have np:=hn p (by simp);have nh1:=hn h1 (by simp);have nh2:=hn h2 (by simp);rw [Am,Am,Am,Am,Am,Am,a1,a2,b1,b2,d1,d2,B7 k.u0,B7 k.u1,B7 k.v0,B7 k.v1,Gd,Gd,B7 he,B7 (fun e=>he e.symm)];simp only [Int.mul_zero,Int.mul_one,Int.zero_add,Int.add_zero];refine ⟨by omega,by omega,fun g1 g2=>?_⟩;obtain ⟨f,q1,q2⟩:=i3 (by omega) (by omega);refine ⟨(c.lo+p.c)::f,?_,by omega,by omega,q2⟩;rw [rsP,if_pos hp,←q1];rcases p with ⟨pu,pv,pr,pc⟩
   rcases h1 with ⟨hu,hv,hr,hc⟩
   rcases h2 with ⟨gu,gv,gr,gc⟩
   dsimp only at *;subst a1;subst a2;subst b1;subst b2;subst d1;subst d2;have x1:pr=c.hi-(c.lo+pc):=by omega
   have x2:pc=c.lo+pc-c.lo:=by omega
   have x3:hr=0:=by omega
   have x4:hc=c.lo:=by omega
   have x5:gr=0:=by omega
   have x6:gc=c.lo:=by omega
   rw [x3,x4,x5,x6,x1,←x2];rfl
  ·have hz:c.lo=0:=by omega
   rw [if_neg hp] at h;rcases Q with _|⟨p,Q⟩
   ·have:=h.len;simp at this
   obtain ⟨t1,a1,a2,a3⟩:=h.tail;dsimp only at a1 a2 a3;obtain ⟨i1,i2,i3⟩:=Nf he hk' t1 (fun x hx=>hn x (by simp [hx]));have np:=hn p (by simp);rw [Am,Am,a1,a2,B7 k.u0,B7 k.u1,B7 k.v0,B7 k.v1];simp only [Int.mul_zero,Int.mul_one,Int.zero_add,Int.add_zero];refine ⟨by omega,by omega,fun g1 g2=>?_⟩;obtain ⟨f,q1,q2⟩:=i3 (by omega) (by omega);refine ⟨p.c::f,?_,by omega,by omega,q2⟩;rw [rsP,if_neg hp,←q1];rcases p with ⟨pu,pv,pr,pc⟩
   dsimp only at *;subst a1;subst a2;have x1:pr=c.hi-pc:=by omega
   rw [x1,hz,Int.sub_zero];rfl
end Go.Proofs.Ytbhjgebjojdohaa
namespace Go.Proofs.Ytbhjgebjojdohaa
open Go Go.RowKit Go.Eng
set_option maxRecDepth 10000
set_option linter.unusedVariables false
set_option linter.unusedSimpArgs false
theorem S6 {n:Nat} {C:Int} {Q:List prP} {B:List arcP} {u v most but tot r:Int} (h:PS n C (flatP 0 Q) B u v most but tot r):∃R,B=flatP 0 R∧Sm Q R∧NN R∧∀φ,WQ φ R=WQ φ Q+(r-tot)*(φ u-φ v):=by
 obtain ⟨R,h1,h2,h3⟩:=A17 h.top h.sums h.ga;refine ⟨R,h1,h2,h3,fun φ=>?_⟩;have:=h.wt φ;rw [h1,Sv,Sv] at this;exact this
theorem Pb {A:List arcP} {R:List prP} {but:Int} {S:Int→Bool} (h:∀(a:Int) (α β:arcP),getI (flatP 0 R) a=some α→getI (flatP 0 R) α.twin=some β→¬exc A but a→S β.to=true→S α.to=false→α.room=0) {e:Nat} {p:prP} (hp:R[e]? = some p) (h0:¬exc A but (2*(e:Int))) (h1:¬exc A but (2*(e:Int)+1)) :
  (S p.u=true→S p.v=false→p.r=0)∧(S p.v=true→S p.u=false→p.c=0):=by
 have hg:=C2 (k:=0) hp;rw [Nat.zero_add] at hg;have g0:getI (flatP 0 R) (2*(e:Int))=some ⟨p.v,p.r,2*(e:Int)+1⟩:=(congrArg (getI (flatP 0 R)) (by omega:2*(e:Int)=((2*e:Nat):Int))).trans (getI_nat.trans hg.1);have g1:getI (flatP 0 R) (2*(e:Int)+1)=some ⟨p.u,p.c,2*(e:Int)⟩:=(congrArg (getI (flatP 0 R)) (by omega:2*(e:Int)+1=((2*e+1:Nat):Int))).trans (getI_nat.trans hg.2);exact ⟨fun a b=>h _ _ _ g0 g1 h0 a b,fun a b=>h _ _ _ g1 g0 h1 a b⟩
theorem Lh {A:List arcP} {but a:Int} (h:but<0):¬exc A but a:=fun e=>by have:=e.1;omega
theorem Pf {a b:List api_Span} (ha:0<a.length∧a.length≤100) (hb:0<b.length∧b.length≤100) (has:∀s∈a,okS s) (hbs:∀s∈b,okS s) {most:Nat} (hmo:most≤100) {gate:Int} {power:api_Span} (hp:okS power) {F:Nat} (hF:1000000000000≤F) :
  ∃(t:tripP) (is:Bool),F7 F a b (most:Int) gate power=some (t,is)∧t.gates=gN a.length b.length ((a.length:Int)+b.length+1) ((a.length:Int)+b.length+2) gate power most∧t.lows=gL gate power most∧FR (a.length+b.length+3) t.net.fr t.net.arcs ∧
   (∀c∈D4 a b most gate power,okC (a.length+b.length+3) ((a.length:Int)+b.length+1) ((a.length:Int)+b.length+2) c) ∧
   (is=true→∃f,Circ (D4 a b most gate power) f∧t.net.arcs=flatP 0 (rsP ((a.length:Int)+b.length+1) ((a.length:Int)+b.length+2) (D4 a b most gate power) f))∧(is=false→∀f,¬Circ (D4 a b most gate power) f):=by
 obtain ⟨t,r,h1,h2,h3,h4,h5⟩:=Mr ha hb has hbs hmo hp hF;have hs:=F3 h2.ok;rw [h2.net.arcs,h2.need] at h5;obtain ⟨R,r1,r2,r3,r4⟩:=S6 h5;refine ⟨_,_,h1,h3,h4,K7 h5.top (by rw [←h2.net.arcs];exact h2.net.fr),h2.ok,fun his=>?_,fun his f hf=>?_⟩
 ·have hr:r.1=sumLo (D4 a b most gate power):=by rw [←h2.need];exact eq_of_beq his
  obtain ⟨i1,i2,i3⟩:=Nf (e0:=(a.length:Int)+b.length+1) (e1:=(a.length:Int)+b.length+2) (by omega) h2.ok r2 r3;have z0:∀M:List cnP,(∀c∈M,okC (a.length+b.length+3) ((a.length:Int)+b.length+1) ((a.length:Int)+b.length+2) c)→WQ (at1 ((a.length:Int)+b.length+1)) (netQ ((a.length:Int)+b.length+1) ((a.length:Int)+b.length+2) M)=0∧WQ (at1 ((a.length:Int)+b.length+2)) (netQ ((a.length:Int)+b.length+1) ((a.length:Int)+b.length+2) M)=sumLo M:=by
   intro M
   induction M with
   | nil=>intro _;exact ⟨rfl,rfl⟩
   | cons c M ih =>
    intro hk;obtain ⟨j1,j2⟩:=ih fun x hx=>hk x (List.mem_cons_of_mem _ hx);have k:=hk c (List.mem_cons_self ..);have:=k.lo;rw [He,E8];have n1:(a.length:Int)+b.length+1≠(a.length:Int)+b.length+2:=by omega
    by_cases hp:0<c.lo
    ·rw [if_pos hp,List.cons_append,List.cons_append,List.nil_append,Am,Am,Am,Am,Am,Am];dsimp only;rw [B7 k.u0,B7 k.u1,B7 k.v0,B7 k.v1,Gd,Gd,B7 n1,B7 n1.symm,j1,j2];omega
    ·rw [if_neg hp,List.nil_append,Am,Am];dsimp only;rw [B7 k.u0,B7 k.u1,B7 k.v0,B7 k.v1,j1,j2];omega
  obtain ⟨y1,y2⟩:=z0 _ h2.ok;have n1:(a.length:Int)+b.length+1≠(a.length:Int)+b.length+2:=by omega
  have w0:=r4 (at1 ((a.length:Int)+b.length+1));have w1:=r4 (at1 ((a.length:Int)+b.length+2));rw [Gd,B7 n1.symm,y1,hr] at w0;rw [Gd,B7 n1,y2,hr] at w1;obtain ⟨f,q1,q2⟩:=i3 (by omega) (by omega);refine ⟨f,⟨q2,fun φ=>?_⟩,by rw [r1,q1]⟩;have e1:=(Gh h2.ok q2).2.2 φ;have e2:=r4 φ;rw [q1,hr,Int.sub_zero] at e2;omega
 ·have hr:r.1≠sumLo (D4 a b most gate power):=by
   intro e;rw [←h2.need] at e;rw [e] at his;simp at his
  have hle:=h5.le hs.1;obtain ⟨S,c1,c2,c3⟩:=h5.cut (by omega);rw [r1] at c3;obtain ⟨s1,s2,s3⟩:=Gh h2.ok hf.bd;have hc:=T5 (S:=S) (r2.symm.tr s1) s2 fun p hp=>by
   obtain ⟨e,he⟩:=List.mem_iff_getElem?.1 hp;exact Pb c3 he (Lh (by omega)) (Lh (by omega))
  have e1:=s3 (ind S);have e2:=r4 (ind S);rw [hf.cv] at e1;have i0:ind S ((a.length:Int)+b.length+1)=1:=if_pos c1;have i1:ind S ((a.length:Int)+b.length+2)=0:=if_neg (by rw [c2];simp);rw [i0,i1] at e1 e2;omega
end Go.Proofs.Ytbhjgebjojdohaa
namespace Go.Proofs.Ytbhjgebjojdohaa
open Go Go.RowKit Go.Eng
set_option maxRecDepth 10000
set_option linter.unusedVariables false
set_option linter.unusedSimpArgs false
def Cv (ψ:Nat→Int):Nat→List Int→Int
 | _,[]=>0
 | k,x::p=>x*ψ k+Cv ψ (k+1) p
def sumAt (n i:Nat) (p:List Int):Int:=Cv (fun r=>if r%n=i then 1 else 0) 0 p
structure PF (a b:List api_Span) (most:Nat) (gate:Int) (power:api_Span) (p:List Int):Prop where
 len:p.length=most
 gb:∀(r:Nat) (x:Int),p[r]? = some x→(gS gate power r).Lo≤x∧x≤(gS gate power r).Hi
 sa:∀(i:Nat) (s:api_Span),a[i]? = some s→s.Lo≤sumAt a.length i p∧sumAt a.length i p≤s.Hi
 sb:∀(i:Nat) (s:api_Span),b[i]? = some s→s.Lo≤sumAt b.length i p∧sumAt b.length i p≤s.Hi
theorem Mw (ψ χ:Nat→Int):∀(p:List Int) (k:Nat),Cv (fun r=>ψ r+χ r) k p=Cv ψ k p+Cv χ k p
 | [],_=>rfl
 | x::p,k=>by rw [Cv,Cv,Cv,Mw ψ χ p,Int.mul_add];omega
theorem Hz {ψ χ:Nat→Int} (h:∀r,ψ r=χ r) (p:List Int) (k:Nat):Cv ψ k p=Cv χ k p:=by rw [show ψ=χ from funext h]
theorem Ph:∀(p:List Int) (k:Nat),Cv (fun _=>0) k p=0
 | [],_=>rfl
 | x::p,k=>by rw [Cv,Ph p,Int.mul_zero];rfl
theorem Gm (φ:Int→Int):∀{M M2:List cnP} {f f2:List Int},f.length=M.length→cirV φ (M++M2) (f++f2)=cirV φ M f+cirV φ M2 f2
 | [],M2,[],f2,_=>by rw [List.nil_append,List.nil_append];show _=0+_;omega
 | [],_,_::_,_,h=>by simp at h
 | _::_,_,[],_,h=>by simp at h
 | c::M,M2,x::f,f2,h=>by
  rw [List.cons_append,List.cons_append,cirV,cirV,Gm φ (by simpa using h)];omega
theorem Lq:∀{M:List cnP} {f:List Int},bdF M f→f.length=M.length
 | [],[],_=>rfl
 | [],_::_,h=>h.elim
 | _::_,[],h=>h.elim
 | c::M,x::f,h=>by rw [List.length_cons,List.length_cons,Lq h.2.2]
theorem Q1:∀{M M2:List cnP} {f:List Int},bdF (M++M2) f→∃f1 f2,f=f1++f2∧bdF M f1∧bdF M2 f2
 | [],M2,f,h=>⟨[],f,rfl,trivial,h⟩
 | c::M,M2,[],h=>h.elim
 | c::M,M2,x::f,h=>by
  obtain ⟨f1,f2,rfl,h1,h2⟩:=Q1 h.2.2;exact ⟨x::f1,f2,rfl,⟨h.1,h.2.1,h1⟩,h2⟩
theorem Ma:∀{M M2:List cnP} {f1 f2:List Int},bdF M f1→bdF M2 f2→bdF (M++M2) (f1++f2)
 | [],M2,[],f2,_,h=>h
 | [],_,_::_,_,h,_=>h.elim
 | _::_,_,[],_,h,_=>h.elim
 | c::M,M2,x::f,f2,h1,h2=>⟨h1.1,h1.2.1,Ma h1.2.2 h2⟩
theorem Qb (n m:Nat) (gate:Int) (power:api_Span) (k l:Nat):(List.range' k (l+1)).map (gC n m gate power)=gC n m gate power k::(List.range' (k+1) l).map (gC n m gate power):=by rw [List.range'_succ,List.map_cons]
theorem Ke (φ:Int→Int) (n m:Nat) (gate:Int) (power:api_Span):∀(p:List Int) (k:Nat),cirV φ ((List.range' k p.length).map (gC n m gate power)) p=Cv (fun r=>φ ((n+r%m:Nat):Int)-φ ((r%n:Nat):Int)) k p
 | [],_=>rfl
 | x::p,k=>by rw [List.length_cons,Qb,cirV,Ke φ n m gate power p,Cv];rfl
theorem Mb (n m:Nat) (gate:Int) (power:api_Span):∀(p:List Int) (k:Nat),bdF ((List.range' k p.length).map (gC n m gate power)) p↔∀(r:Nat) (x:Int),p[r]? = some x→(gS gate power (k+r)).Lo≤x∧x≤(gS gate power (k+r)).Hi
 | [],_=>⟨fun _ r x h=>by simp at h,fun _=>trivial⟩
 | x::p,k=>by
  rw [List.length_cons,Qb];show _∧_∧bdF _ _↔_;rw [Mb n m gate power p (k+1)];constructor
  ·rintro ⟨h1,h2,h3⟩ r y hy
   cases r with
   | zero=>simp at hy;subst hy;exact ⟨h1,h2⟩
   | succ r =>
    have:=h3 r y (by simpa using hy);rw [show k+(r+1)=k+1+r by omega];exact this
  ·intro h;refine ⟨(h 0 x rfl).1,(h 0 x rfl).2,fun r y hy=>?_⟩;have:=h (r+1) y (by simpa using hy);rw [show k+1+r=k+(r+1) by omega];exact this
def tab (h:Nat→Int):Nat→Nat→List Int
 | _,0=>[]
 | k,l+1=>h k::tab h (k+1) l
def Gc (g:Nat→Int):Nat→Nat→Int
 | _,0=>0
 | k,l+1=>g k+Gc g (k+1) l
theorem Ux (h:Nat→Int):∀(l k:Nat),(tab h k l).length=l
 | 0,_=>rfl
 | l+1,k=>by rw [tab,List.length_cons,Ux h l]
theorem Wu (φ:Int→Int) (c:Int) (h:Nat→Int):∀(l:List api_Span) (k:Nat),cirV φ (aM c k l) (tab h k l.length)=Gc (fun i=>h i*(φ (i:Int)-φ c)) k l.length
 | [],_=>rfl
 | s::l,k=>by rw [aM,List.length_cons,tab,cirV,Wu φ c h l,Gc]
theorem Wv (φ:Int→Int) (n:Nat) (c:Int) (h:Nat→Int):∀(l:List api_Span) (k:Nat),cirV φ (bM n c k l) (tab h k l.length)=Gc (fun i=>h i*(φ c-φ ((n+i:Nat):Int))) k l.length
 | [],_=>rfl
 | s::l,k=>by rw [bM,List.length_cons,tab,cirV,Wv φ n c h l,Gc]
theorem Zv (c:Int) (h:Nat→Int):∀(l:List api_Span) (k:Nat),bdF (aM c k l) (tab h k l.length)↔∀(i:Nat) (s:api_Span),l[i]? = some s→s.Lo≤h (k+i)∧h (k+i)≤s.Hi
 | [],_=>⟨fun _ i s hs=>by simp at hs,fun _=>trivial⟩
 | s::l,k=>by
  rw [aM,List.length_cons,tab];show _∧_∧bdF _ _↔_;rw [Zv c h l (k+1)];constructor
  ·rintro ⟨h1,h2,h3⟩ i s' hs
   cases i with
   | zero=>simp at hs;subst hs;exact ⟨h1,h2⟩
   | succ i=>have:=h3 i s' (by simpa using hs);rw [show k+(i+1)=k+1+i by omega];exact this
  ·intro g;refine ⟨(g 0 s rfl).1,(g 0 s rfl).2,fun i s' hs=>?_⟩;have:=g (i+1) s' (by simpa using hs);rw [show k+1+i=k+(i+1) by omega];exact this
theorem Zw (n:Nat) (c:Int) (h:Nat→Int):∀(l:List api_Span) (k:Nat),bdF (bM n c k l) (tab h k l.length)↔∀(i:Nat) (s:api_Span),l[i]? = some s→s.Lo≤h (k+i)∧h (k+i)≤s.Hi
 | [],_=>⟨fun _ i s hs=>by simp at hs,fun _=>trivial⟩
 | s::l,k=>by
  rw [bM,List.length_cons,tab];show _∧_∧bdF _ _↔_;rw [Zw n c h l (k+1)];constructor
  ·rintro ⟨h1,h2,h3⟩ i s' hs
   cases i with
   | zero=>simp at hs;subst hs;exact ⟨h1,h2⟩
   | succ i=>have:=h3 i s' (by simpa using hs);rw [show k+(i+1)=k+1+i by omega];exact this
  ·intro g;refine ⟨(g 0 s rfl).1,(g 0 s rfl).2,fun i s' hs=>?_⟩;have:=g (i+1) s' (by simpa using hs);rw [show k+1+i=k+(i+1) by omega];exact this
theorem Nr:∀(f:List Int) (k:Nat),f=tab (fun i=>f.getD (i-k) 0) k f.length
 | [],_=>rfl
 | x::f,k=>by
  rw [List.length_cons,tab]
  congr 1
  ·rw [Nat.sub_self];rfl
  ·have:=Nr f (k+1)
   conv=>lhs;rw [this]
   have:∀(l j:Nat),k+1≤j→tab (fun i=>f.getD (i-(k+1)) 0) j l=tab (fun i=>(x::f).getD (i-k) 0) j l:=by
    intro l
    induction l with
    | zero=>intro _ _;rfl
    | succ l ih =>
     intro j hj;rw [tab,tab,ih (j+1) (by omega)]
     congr 1
     rw [show j-k=(j-(k+1))+1 by omega,List.getD_cons_succ]
   exact this _ _ (Nat.le_refl _)
theorem Hl (h:Nat→Int) (g:Nat→Int) (z:Nat):∀(l k:Nat),(∀i,i≠z→g i=0)→Gc (fun i=>h i*g i) k l=if k≤z∧z<k+l then h z*g z else 0
 | 0,k,_=>by rw [Gc,if_neg (by omega)]
 | l+1,k,hg=>by
  rw [Gc,Hl h g z l (k+1) hg]
  by_cases e:k=z
  ·subst e;rw [if_neg (by omega),if_pos (by omega)];omega
  ·rw [hg k e,Int.mul_zero,Int.zero_add]
   by_cases e2:k+1≤z∧z<k+1+l
   ·rw [if_pos e2,if_pos (by omega)]
   ·rw [if_neg e2,if_neg (by omega)]
theorem Hm (g:Nat→Int):∀(l k:Nat),(∀i,k≤i→i<k+l→g i=0)→Gc g k l=0
 | 0,_,_=>rfl
 | l+1,k,h=>by rw [Gc,h k (Nat.le_refl _) (by omega),Hm g l (k+1) (fun i h1 h2=>h i (by omega) (by omega))];rfl
theorem Sr (g h:Nat→Int):∀(l k:Nat),Gc (fun i=>g i+h i) k l=Gc g k l+Gc h k l
 | 0,_=>rfl
 | l+1,k=>by rw [Gc,Gc,Gc,Sr g h l];omega
theorem J8 (n:Nat) (hn:0<n) (g:Nat→Int):∀(p:List Int) (k:Nat),Gc (fun i=>Cv (fun r=>if r%n=i then 1 else 0) k p*g i) 0 n=Cv (fun r=>g (r%n)) k p
 | [],k=>by rw [Hm];rfl;intro i _ _;show 0*_=_;rw [Int.zero_mul]
 | x::p,k=>by
  have e:(fun i=>Cv (fun r=>if r%n=i then 1 else 0) k (x::p)*g i)=fun i=>x*(if k%n=i then g i else 0)+Cv (fun r=>if r%n=i then 1 else 0) (k+1) p*g i:=by
   funext i
   rw [Cv,Int.add_mul]
   congr 1
   split<;>simp
  rw [e,Sr,J8 n hn g p (k+1),Cv]
  congr 1
  have:=Hl (fun _=>x) (fun i=>if k%n=i then g i else 0) (k%n) n 0 (fun i hi=>if_neg (fun e=>hi e.symm));rw [this,if_pos ⟨Nat.zero_le _,by have:=Nat.mod_lt k hn;omega⟩,if_pos rfl]
end Go.Proofs.Ytbhjgebjojdohaa
namespace Go.Proofs.Ytbhjgebjojdohaa
open Go Go.RowKit Go.Eng
set_option maxRecDepth 10000
set_option linter.unusedVariables false
set_option linter.unusedSimpArgs false
theorem Jm (n m:Nat) (gate:Int) (power:api_Span) (k:Nat):gM n m gate power k=(List.range' 0 k).map (gC n m gate power):=by unfold gM;rw [List.range_eq_range']
theorem Rp (ψ:Nat→Int):∀(p:List Int) (k:Nat),Cv (fun r=>- ψ r) k p=- Cv ψ k p
 | [],_=>rfl
 | x::p,k=>by rw [Cv,Cv,Rp ψ p,Int.mul_neg];omega
theorem Jh {a b:List api_Span} {most:Nat} {gate:Int} {power:api_Span} {p:List Int} (ha:0<a.length) (hb:0<b.length) (h:PF a b most gate power p) :
  Circ (D4 a b most gate power) (p++tab (fun i=>sumAt a.length i p) 0 a.length++tab (fun i=>sumAt b.length i p) 0 b.length):=by
 have hl:p.length=(gM a.length b.length gate power most).length:=by unfold gM;rw [List.length_map,List.length_range,h.len]
 have eg:gM a.length b.length gate power most=(List.range' 0 p.length).map (gC a.length b.length gate power):=by rw [Jm,h.len]
 constructor
 ·unfold D4;refine Ma (Ma ?_ ?_) ?_
  ·rw [eg,Mb];intro r x hx;rw [Nat.zero_add];exact h.gb r x hx
  ·rw [Zv];intro i s hs;rw [Nat.zero_add];exact h.sa i s hs
  ·rw [Zw];intro i s hs;rw [Nat.zero_add];exact h.sb i s hs
 ·intro φ;unfold D4;rw [Gm φ (by rw [List.length_append,List.length_append,Ux,Ka,hl]),Gm φ hl,eg,Ke,Wu,Wv];have e1:=J8 a.length ha (fun i=>φ (i:Int)-φ ((a.length:Int)+(b.length:Int))) p 0;have e2:=J8 b.length hb (fun i=>φ ((a.length:Int)+(b.length:Int))-φ ((a.length+i:Nat):Int)) p 0;unfold sumAt;rw [e1,e2,←Mw,←Mw];rw [Hz (χ:=fun _=>0) (fun r=>by omega),Ph]
theorem Ly {a b:List api_Span} {most:Nat} {gate:Int} {power:api_Span} {f:List Int} (ha:0<a.length) (hb:0<b.length) (h:Circ (D4 a b most gate power) f):∃p f2,f=p++f2∧PF a b most gate power p:=by
 obtain ⟨hbd,hcv⟩:=h;unfold D4 at hbd hcv;obtain ⟨g1,fb,rfl,h1,h3⟩:=Q1 hbd;obtain ⟨p,fa,rfl,h1,h2⟩:=Q1 h1;have l1:=Lq h1;have l2:=Lq h2;have l3:=Lq h3;rw [Ka] at l2;rw [T0] at l3;have hpl:p.length=most:=by rw [l1];unfold gM;rw [List.length_map,List.length_range]
 have eg:gM a.length b.length gate power most=(List.range' 0 p.length).map (gC a.length b.length gate power):=by rw [Jm,hpl]
 obtain ⟨ha',hha'⟩:∃g,g=fun i=>fa.getD (i-0) 0:=⟨_,rfl⟩;obtain ⟨hb',hhb'⟩:∃g,g=fun i=>fb.getD (i-0) 0:=⟨_,rfl⟩;have ea:fa=tab ha' 0 a.length:=by rw [hha',←l2];exact Nr fa 0
 have eb:fb=tab hb' 0 b.length:=by rw [hhb',←l3];exact Nr fb 0
 rw [ea] at h2;rw [eb] at h3;rw [Zv] at h2;rw [Zw] at h3;have key:∀φ:Int→Int,Cv (fun r=>φ ((a.length+r%b.length:Nat):Int)-φ ((r%a.length:Nat):Int)) 0 p+Gc (fun i=>ha' i*(φ (i:Int)-φ ((a.length:Int)+(b.length:Int)))) 0 a.length+Gc (fun i=>hb' i*(φ ((a.length:Int)+(b.length:Int))-φ ((a.length+i:Nat):Int))) 0 b.length=0:=fun φ=>by
  have:=hcv φ;rw [Gm φ (by rw [List.length_append,List.length_append,Ka,l1,l2]),Gm φ l1,eg,Ke,ea,eb,Wu,Wv] at this;exact this
 have sA:∀i,i<a.length→sumAt a.length i p=ha' i:=fun i hi=>by
  have:=key (at1 (i:Int));rw [Hl ha' (fun j=>at1 (i:Int) (j:Int)-at1 (i:Int) ((a.length:Int)+(b.length:Int))) i a.length 0 (fun j hj=>by
   show at1 (i:Int) (j:Int)-at1 (i:Int) ((a.length:Int)+(b.length:Int))=0;rw [B7 (by omega),B7 (by omega)];rfl),if_pos ⟨Nat.zero_le _,by omega⟩] at this
  rw [Gd,B7 (show (a.length:Int)+(b.length:Int)≠(i:Int) by omega)] at this;rw [Hm (fun j=>hb' j*(0-at1 (i:Int) ((a.length+j:Nat):Int))) b.length 0 (fun j _ _=>by rw [B7 (by omega)];simp)] at this;rw [Hz (χ:=fun r=>- (if r%a.length=i then (1:Int) else 0)) (fun r=>by
   have h1:=Nat.mod_lt r ha;rw [B7 (show ((a.length+r%b.length:Nat):Int)≠(i:Int) by omega)]
   by_cases e:r%a.length=i
   ·rw [e,Gd,if_pos rfl];rfl
   ·rw [B7 (by omega),if_neg e];rfl),Rp] at this
  unfold sumAt;omega
 have sB:∀i,i<b.length→sumAt b.length i p=hb' i:=fun i hi=>by
  have:=key (at1 ((a.length+i:Nat):Int));rw [Hm (fun j=>ha' j*(at1 ((a.length+i:Nat):Int) (j:Int)-at1 ((a.length+i:Nat):Int) ((a.length:Int)+(b.length:Int)))) a.length 0 (fun j _ hj=>by rw [B7 (by omega),B7 (by omega)];simp)] at this;rw [Hl hb' (fun j=>at1 ((a.length+i:Nat):Int) ((a.length:Int)+(b.length:Int))-at1 ((a.length+i:Nat):Int) ((a.length+j:Nat):Int)) i b.length 0 (fun j hj=>by
   show at1 ((a.length+i:Nat):Int) ((a.length:Int)+(b.length:Int))-at1 ((a.length+i:Nat):Int) ((a.length+j:Nat):Int)=0;rw [B7 (by omega),B7 (by omega)];rfl),if_pos ⟨Nat.zero_le _,by omega⟩] at this
  rw [Gd,B7 (show (a.length:Int)+(b.length:Int)≠((a.length+i:Nat):Int) by omega)] at this;rw [Hz (χ:=fun r=>(if r%b.length=i then (1:Int) else 0)) (fun r=>by
   have h1:=Nat.mod_lt r ha;rw [B7 (show ((r%a.length:Nat):Int)≠((a.length+i:Nat):Int) by omega)]
   by_cases e:r%b.length=i
   ·rw [e,Gd,if_pos rfl];rfl
   ·rw [B7 (by omega),if_neg e];rfl)] at this
  unfold sumAt;omega
 refine ⟨p,fa++fb,by rw [List.append_assoc],hpl,fun r x hx=>?_,fun i s hs=>?_,fun i s hs=>?_⟩
 ·rw [eg,Mb] at h1;have:=h1 r x hx;rw [Nat.zero_add] at this;exact this
 ·have:=h2 i s hs;rw [Nat.zero_add] at this;rw [sA i (List.getElem?_eq_some_iff.1 hs).1];exact this
 ·have:=h3 i s hs;rw [Nat.zero_add] at this;rw [sB i (List.getElem?_eq_some_iff.1 hs).1];exact this
end Go.Proofs.Ytbhjgebjojdohaa
namespace Go.Proofs.Ytbhjgebjojdohaa
open Go Go.RowKit Go.Eng
set_option maxRecDepth 10000
set_option linter.unusedVariables false
set_option linter.unusedSimpArgs false
theorem Qw (e0 e1:Int):∀{M:List cnP} {f:List Int},f.length=M.length→(rsP e0 e1 M f).length=(netQ e0 e1 M).length
 | [],[],_=>rfl
 | [],_::_,h=>by simp at h
 | _::_,[],h=>by simp at h
 | c::M,x::f,h=>by
  rw [rsP,He,List.length_cons,List.length_cons,List.length_append,List.length_append,Qw e0 e1 (by simpa using h)]
  split<;>rfl
theorem Ut (e0 e1:Int):∀{M M2:List cnP} {f f2:List Int},f.length=M.length→rsP e0 e1 (M++M2) (f++f2)=rsP e0 e1 M f++rsP e0 e1 M2 f2
 | [],_,[],_,_=>rfl
 | [],_,_::_,_,h=>by simp at h
 | _::_,_,[],_,h=>by simp at h
 | c::M,M2,x::f,f2,h=>by
  rw [List.cons_append,List.cons_append,rsP,rsP,Ut e0 e1 (by simpa using h),List.cons_append,List.append_assoc]
theorem X8 (n m:Nat) (gate:Int) (power:api_Span) {r most:Nat} (h:r<most):gM n m gate power most=gM n m gate power r++gC n m gate power r::(List.range' (r+1) (most-r-1)).map (gC n m gate power):=by
 rw [Jm,Jm,←Qb,←List.map_append]
 congr 1
 have:=List.range'_append_1 (s:=0) (m:=r) (n:=most-r-1+1);rw [Nat.zero_add] at this;rw [this]
 congr 1
 omega
theorem Fz {a b:List api_Span} {most:Nat} {gate:Int} {power:api_Span} {p f2:List Int} {e0 e1:Int} (hl:p.length=most) {r:Nat} {x:Int} (hx:p[r]? = some x) :
  (rsP e0 e1 (D4 a b most gate power) (p++f2))[(netQ e0 e1 (gM a.length b.length gate power r)).length]? = some ⟨((r%a.length:Nat):Int),((a.length+r%b.length:Nat):Int),(gS gate power r).Hi-x,x-(gS gate power r).Lo⟩:=by
 have hr:r<most:=by rw [←hl];exact (List.getElem?_eq_some_iff.1 hx).1
 have hp:p=p.take r++x::p.drop (r+1):=by
  have h1:=(List.getElem?_eq_some_iff.1 hx);rw [←h1.2,List.getElem_cons_drop,List.take_append_drop]
 have ht:(p.take r).length=(gM a.length b.length gate power r).length:=by
  unfold gM;rw [List.length_take,List.length_map,List.length_range];omega
 unfold D4;rw [X8 _ _ _ _ hr]
 conv=>lhs;rw [hp]
 rw [List.append_assoc,List.append_assoc,List.append_assoc,Ut e0 e1 ht,List.getElem?_append_right (by rw [Qw e0 e1 ht];exact Nat.le_refl _),Qw e0 e1 ht,Nat.sub_self,List.cons_append,List.cons_append,rsP];rfl
theorem N9 {a b:List api_Span} {most:Nat} {gate:Int} {power:api_Span} {p f2:List Int} {e0 e1:Int} (hl:p.length=most) {t:tripP} (hg:t.gates=gN a.length b.length e0 e1 gate power most) (hw:t.lows=gL gate power most) (ha:t.net.arcs=flatP 0 (rsP e0 e1 (D4 a b most gate power) (p++f2))) {r:Nat} {x:Int} (hx:p[r]? = some x) (hb:-1000000000000≤x∧x≤1000000000000):Fe t (r:Int)=some x:=by
 have hr:r<most:=by rw [←hl];exact (List.getElem?_eq_some_iff.1 hx).1
 have q:=C2 (k:=0) (Fz (a:=a) (b:=b) (most:=most) (gate:=gate) (power:=power) (f2:=f2) (e0:=e0) (e1:=e1) hl hx);rw [Nat.zero_add,←ha] at q;have g1:getI t.lows (r:Int)=some (gS gate power r).Lo:=by
  rw [getI_nat,hw];unfold gL;rw [List.getElem?_map,List.getElem?_range hr];rfl
 have g2:getI t.gates (r:Int)=some (2*((netQ e0 e1 (gM a.length b.length gate power r)).length:Int)):=by
  rw [getI_nat,hg];unfold gN;rw [List.getElem?_map,List.getElem?_range hr];rfl
 have g3:=(congrArg (getI t.net.arcs) (by omega:2*((netQ e0 e1 (gM a.length b.length gate power r)).length:Int)=((2*(netQ e0 e1 (gM a.length b.length gate power r)).length:Nat):Int))).trans (getI_nat.trans q.1);have g4:=(congrArg (getI t.net.arcs) (by omega:2*((netQ e0 e1 (gM a.length b.length gate power r)).length:Int)+1=((2*(netQ e0 e1 (gM a.length b.length gate power r)).length+1:Nat):Int))).trans (getI_nat.trans q.2);unfold Fe;rw [A9 g1,A9 g2,A9 g3];dsimp only;rw [A9 g4];dsimp only;rw [show (gS gate power r).Lo+(x-(gS gate power r).Lo)=x by omega];unfold ck;rw [if_pos ⟨by omega,by omega⟩]
theorem Pq {t:tripP} {p:List Int} {most:Nat} (hl:p.length=most) (hm:most≤1000) (h:∀(r:Nat) (x:Int),p[r]? = some x→Fe t (r:Int)=some x):∀(F k:Nat),k≤most→most-k<F→Em (most:Int) t F (k:Int) (p.take k)=some p
 | 0,_,_,hF=>by omega
 | F+1,k,hk,hF=>by
  by_cases hlt:k<most
  ·obtain ⟨x,hx⟩:∃x,p[k]? = some x:=⟨_,List.getElem?_eq_getElem (by omega)⟩;rw [Em,decide_eq_true (by omega:(k:Int)<(most:Int)),cond_true,A9 (h k x hx)];rw [A9 (show apd 8 (p.take k) [x]=some (p.take k++[x]) by unfold apd;rw [if_pos ⟨by rw [List.length_take,List.length_singleton];omega,by rw [List.length_take,List.length_singleton];omega⟩])];rw [A9 (show ck ((k:Int)+1)=some ((k+1:Nat):Int) by unfold ck;rw [if_pos ⟨by omega,by omega⟩,Int.natCast_add];rfl)];have e:p.take k++[x]=p.take (k+1):=by rw [List.take_add_one,hx];rfl
   rw [e];exact Pq hl hm h F (k+1) (by omega) (by omega)
  ·have hk2:k=most:=by omega
   subst hk2;rw [Em,decide_eq_false (by omega:¬(k:Int)<(k:Int)),cond_false,←hl,List.take_length]
theorem M5 {a b:List api_Span} (ha:0<a.length∧a.length≤100) (hb:0<b.length∧b.length≤100) (has:∀s∈a,okS s) (hbs:∀s∈b,okS s) {most:Nat} (hmo:0<most∧most≤100) {F:Nat} (hF:1000000000000≤F) (hls:Cg F a b (most:Int)=some 0) {gate:Nat} (hg:gate<most) {power:Int} (hp:0≤power∧power≤1073741824) :
  (∃p,Bm F a b (most:Int) (gate:Int) power=some (p,0)∧PF a b most (gate:Int) ⟨power,power⟩ p)∨(Bm F a b (most:Int) (gate:Int) power=some ([],14)∧∀p,¬PF a b most (gate:Int) ⟨power,power⟩ p):=by
 have head:Bm F a b (most:Int) (gate:Int) power=(F7 F a b (most:Int) (gate:Int) ⟨power,power⟩).bind fun t=>bif !t.2 then some ([],14) else (Em (most:Int) t.1 F 0 []).bind fun out=>some (out,0):=by
  unfold Bm;rw [A9 hls,show ((0:Int) != 0)=false from rfl,cond_false,decide_eq_false (by omega:¬(gate:Int)<0),cond_false,decide_eq_false (by omega:¬(gate:Int)≥(most:Int)),cond_false,decide_eq_false (by omega:¬power<0),cond_false,decide_eq_false (by omega:¬power>1073741824),cond_false]
 obtain ⟨t,is,h1,h2,h3,h4,h5,h6,h7⟩:=Pf ha hb has hbs hmo.2 (gate:=(gate:Int)) (power:=⟨power,power⟩) ⟨hp.1,Int.le_refl _,hp.2⟩ hF;rw [A9 h1] at head
 cases is with
 | true =>
  obtain ⟨f,c1,c2⟩:=h6 rfl;obtain ⟨p,f2,rfl,c3⟩:=Ly ha.1 hb.1 c1;left;refine ⟨p,?_,c3⟩;rw [head];show ((Em (most:Int) t F 0 []).bind _)=_;have hpw:=Pq (t:=t) c3.len (by omega) (fun r x hx=>N9 c3.len h2 h3 c2 hx (by
   have:=c3.gb r x hx;have k:=Zl (gate:=(gate:Int)) (power:=⟨power,power⟩) ⟨hp.1,Int.le_refl _,hp.2⟩ r;have:=k.1;have:=k.2.1;have:=k.2.2;omega)) F 0 (Nat.zero_le _) (by omega)
  rw [List.take_zero] at hpw;rw [show (0:Int)=((0:Nat):Int) from rfl,A9 hpw]
 | false =>
  right;refine ⟨head.trans rfl,fun p hp'=>h7 rfl _ (Jh ha.1 hb.1 hp')⟩
end Go.Proofs.Ytbhjgebjojdohaa
namespace Go.Proofs.Ytbhjgebjojdohaa
open Go Go.RowKit Go.Eng
set_option maxRecDepth 10000
set_option linter.unusedVariables false
set_option linter.unusedSimpArgs false
theorem Ri {Q:List prP} {e:Nat} {p:prP} (hp:Q[e]? = some p) {a:Int} (h:exc (flatP 0 Q) (2*(e:Int)) a):a=2*(e:Int)∨a=2*(e:Int)+1:=by
 have q:=C2 (k:=0) hp;rw [Nat.zero_add] at q;rcases h.2 with h|⟨y,hy,h⟩
 ·exact .inl h
 ·right;rw [show 2*(e:Int)=((2*e:Nat):Int) by omega,getI_nat,q.1] at hy
  cases hy
  exact h
theorem Hg {Q:List prP} {e:Nat} {p:prP} (hp:Q[e]? = some p):getI (flatP 0 Q) (2*(e:Int))=some ⟨p.v,p.r,2*(e:Int)+1⟩∧getI (flatP 0 Q) (2*(e:Int)+1)=some ⟨p.u,p.c,2*(e:Int)⟩:=by
 have q:=C2 (k:=0) hp;rw [Nat.zero_add] at q;exact ⟨(congrArg (getI (flatP 0 Q)) (by omega:2*(e:Int)=((2*e:Nat):Int))).trans (getI_nat.trans q.1),(congrArg (getI (flatP 0 Q)) (by omega:2*(e:Int)+1=((2*e+1:Nat):Int))).trans (getI_nat.trans q.2)⟩
theorem Y7 {n:Nat} {e0 e1:Int} (h0:0≤e0∧e0<n) (h1:0≤e1∧e1<n) (hne:e0≠e1) (hn:n≤1000) {M:List cnP} (hk:∀c∈M,okC n e0 e1 c) {f:List Int} (hf:Circ M f) {fr:List (List Int)} (hfr:FR n fr (flatP 0 (rsP e0 e1 M f))) {e:Nat} {p:prP} (hp:(rsP e0 e1 M f)[e]? = some p) {F:Nat} (hF:1000000000000≤F)
  {s d most:Int} (hs:0≤s∧s<n) (hd:0≤d∧d<n) (hm:0≤most∧most≤1073741824) :
  ∃(q:Int×List arcP) (R:List prP),Ef F fr s d most (2*(e:Int)) F 0 (flatP 0 (rsP e0 e1 M f))=some q∧q.2=flatP 0 R∧R[e]? = some p∧0≤q.1∧q.1≤most∧Sm (netQ e0 e1 M) R∧NN R∧FR n fr q.2∧(∀φ,WQ φ R=WQ φ (rsP e0 e1 M f)+q.1*(φ s-φ d)) ∧
   (q.1<most→∃S:Int→Bool,S s=true∧S d=false∧∀f2,Circ M f2→∀p2,(rsP e0 e1 M f2)[e]? = some p2→WQ (ind S) (rsP e0 e1 M f2)-(p2.r*ind S p.v+p2.c*ind S p.u)≤WQ (ind S) R-(p.r*ind S p.v+p.c*ind S p.u)):=by
 obtain ⟨s1,s2,s3⟩:=Gh hk hf.bd;have bnd:∀q∈rsP e0 e1 M f,(0≤q.u∧q.u<n)∧(0≤q.v∧q.v<n)∧0≤q.r∧0≤q.c∧q.r+q.c≤1073741824:=fun q hq=>by
  obtain ⟨i,hi⟩:=List.mem_iff_getElem?.1 hq;obtain ⟨q0,g1,g2,g3,g4⟩:=s1.symm.get hi;have b:=Qk h0 h1 hk q0 (List.mem_of_getElem? g1);have nn:=s2 q hq;exact ⟨by rw [←g2];exact b.1,by rw [←g3];exact b.2.1,nn.1,nn.2,by omega⟩
 have pat:=Hg hp;obtain ⟨q,c1,c2⟩:=Qq (C:=1073741824) (most:=most) (but:=2*(e:Int)) (u:=s) (v:=d) (by omega) (by omega) (by omega) hs hd (F:=F) (by omega) F 0 _ (Jk bnd) hfr (.inr ⟨_,pat.1⟩) (Int.le_refl _) (by omega);obtain ⟨R,r1,r2,r3,r4⟩:=S6 c2;have hRe:R[e]? = some p:=by
  obtain ⟨p',g1,g2,g3,g4⟩:=r2.get hp;have pat2:=Hg g1;have k1:=c2.keep (2*(e:Int)) ⟨by omega,.inl rfl⟩;have k2:=c2.keep (2*(e:Int)+1) ⟨by omega,.inr ⟨_,pat.1,rfl⟩⟩;rw [r1,pat2.1,pat.1] at k1;rw [r1,pat2.2,pat.2] at k2;simp only [Option.some.injEq,arcP.mk.injEq] at k1 k2;rw [g1];rcases p with ⟨pu,pv,pr,pc⟩
  rcases p' with ⟨qu,qv,qr,qc⟩
  dsimp only at *;rw [g2,g3,k1.2.1,k2.2.1]
 refine ⟨q,R,c1,r1,hRe,c2.ge,c2.le hm.1,s1.tr r2,r3,K7 c2.top hfr,fun φ=>by rw [r4 φ,Int.sub_zero],fun hlt=>?_⟩;obtain ⟨S,d1,d2,d3⟩:=c2.cut hlt;rw [r1] at d3;refine ⟨S,d1,d2,fun f2 hf2 p2 hp2=>?_⟩;obtain ⟨t1,t2,t3⟩:=Gh hk hf2.bd;have hpp:=(s1.symm.tr t1).at_ e p p2 hp hp2;have sm2:Sm R (rsP e0 e1 M f2):=r2.symm.tr (s1.symm.tr t1);have hz:=T5 (S:=S) (Q:=R.set e ⟨p.u,p.v,0,0⟩) (R:=(rsP e0 e1 M f2).set e ⟨p.u,p.v,0,0⟩) ⟨by rw [List.length_set,List.length_set,sm2.len],fun i x y hx hy=>?_⟩ (fun x hx=>?_) (fun x hx=>?_)
 ·rw [M6 _ hp2,M6 _ hRe] at hz;dsimp only at hz;rw [hpp.1,hpp.2.1] at hz;simp only [Int.zero_mul,Int.add_zero] at hz;exact hz
 ·by_cases ei:e=i
  ·subst ei;rw [List.getElem?_set_self (List.getElem?_eq_some_iff.1 hRe).1] at hx;rw [List.getElem?_set_self (List.getElem?_eq_some_iff.1 hp2).1] at hy
   cases hx;cases hy
   exact ⟨rfl,rfl,rfl⟩
  ·rw [List.getElem?_set_ne ei] at hx hy;exact sm2.at_ i x y hx hy
 ·rcases List.mem_or_eq_of_mem_set hx with hx|rfl
  ·exact t2 x hx
  ·exact ⟨Int.le_refl _,Int.le_refl _⟩
 ·obtain ⟨i,hi⟩:=List.mem_iff_getElem?.1 hx
  by_cases ei:e=i
  ·subst ei;rw [List.getElem?_set_self (List.getElem?_eq_some_iff.1 hRe).1] at hi
   cases hi
   exact ⟨fun _ _=>rfl,fun _ _=>rfl⟩
  ·rw [List.getElem?_set_ne ei] at hi;exact Pb d3 hi (fun h=>by rcases Ri hp h with h|h<;>omega) (fun h=>by rcases Ri hp h with h|h<;>omega)
theorem Lb {n:Nat} {e0 e1:Int} (hne:e0≠e1) {M:List cnP} (hk:∀c∈M,okC n e0 e1 c) {f:List Int} (hf:Circ M f) {R:List prP} (hS:Sm (netQ e0 e1 M) R) (hN:NN R) (hw:∀φ,WQ φ R=WQ φ (rsP e0 e1 M f)):∃f2,Circ M f2∧R=rsP e0 e1 M f2:=by
 obtain ⟨s1,s2,s3⟩:=Gh hk hf.bd;obtain ⟨i1,i2,i3⟩:=Nf hne hk s1 s2;obtain ⟨j1,j2,j3⟩:=Nf hne hk hS hN;have full:∀(M:List cnP) (f:List Int),(∀c∈M,okC n e0 e1 c)→bdF M f→WQ (at1 e0) (rsP e0 e1 M f)=sumLo M∧WQ (at1 e1) (rsP e0 e1 M f)=0:=by
  intro M
  induction M with
  | nil=>intro f _ h;cases f with|nil=>exact ⟨rfl,rfl⟩|cons=>exact h.elim
  | cons c M ih =>
   intro f hk h
   cases f with
   | nil=>exact h.elim
   | cons x f =>
    obtain ⟨a1,a2⟩:=ih f (fun x hx=>hk x (List.mem_cons_of_mem _ hx)) h.2.2;have k:=hk c (List.mem_cons_self ..);have:=k.lo;rw [rsP,E8]
    by_cases hp:0<c.lo
    ·rw [if_pos hp,List.cons_append,List.cons_append,List.nil_append,Am,Am,Am,Am,Am,Am];dsimp only;rw [B7 k.u0,B7 k.u1,B7 k.v0,B7 k.v1,Gd,Gd,B7 hne,B7 hne.symm,a1,a2];omega
    ·rw [if_neg hp,List.nil_append,Am,Am];dsimp only;rw [B7 k.u0,B7 k.u1,B7 k.v0,B7 k.v1,a1,a2];omega
 obtain ⟨w1,w2⟩:=full M f hk hf.bd;obtain ⟨f2,q1,q2⟩:=j3 (by rw [hw,w1]) (by rw [hw,w2]);refine ⟨f2,⟨q2,fun φ=>?_⟩,q1⟩;have e1:=(Gh hk q2).2.2 φ;have e2:=s3 φ;have e3:=hw φ;rw [hf.cv] at e2;rw [q1] at e3;omega
end Go.Proofs.Ytbhjgebjojdohaa
namespace Go.Proofs.Ytbhjgebjojdohaa
open Go Go.RowKit Go.Eng
set_option maxRecDepth 10000
set_option linter.unusedVariables false
set_option linter.unusedSimpArgs false
theorem Km (d1 d2:Int):∀{R:List prP} {k e:Nat} {p:prP},R[e]? = some p→((flatP k R).set (2*e) ⟨p.v,d1,2*((k+e:Nat):Int)+1⟩).set (2*e+1) ⟨p.u,d2,2*((k+e:Nat):Int)⟩=flatP k (R.set e ⟨p.u,p.v,d1,d2⟩)
 | [],_,_,_,h=>by simp at h
 | q::R,k,0,p,h=>by simp at h;subst h;rfl
 | q::R,k,e+1,p,h=>by
  simp only [List.getElem?_cons_succ] at h;have ih:=Km d1 d2 (k:=k+1) h;rw [List.set_cons_succ,flatP,flatP,←ih,show 2*(e+1)=2*e+1+1 by omega,List.set_cons_succ,List.set_cons_succ,List.set_cons_succ,List.set_cons_succ,show k+(e+1)=k+1+e by omega]
theorem S4 {R:List prP} {e:Nat} {p:prP} (hp:R[e]? = some p) (d1 d2:Int):∃A1,Cb (flatP 0 R) (2*(e:Int)) ⟨p.v,d1,2*(e:Int)+1⟩=some A1∧getI A1 (2*(e:Int)+1)=some ⟨p.u,p.c,2*(e:Int)⟩∧Cb A1 (2*(e:Int)+1) ⟨p.u,d2,2*(e:Int)⟩=some (flatP 0 (R.set e ⟨p.u,p.v,d1,d2⟩)):=by
 have hl:=(List.getElem?_eq_some_iff.1 hp).1;have q:=C2 (k:=0) hp;rw [Nat.zero_add] at q;have hfl:=C6 R 0;refine ⟨(flatP 0 R).set (2*e) ⟨p.v,d1,2*(e:Int)+1⟩,?_,?_,?_⟩
 ·unfold Cb;rw [if_pos ⟨by omega,by omega⟩,show (2*(e:Int)).toNat=2*e by omega]
 ·rw [show 2*(e:Int)+1=((2*e+1:Nat):Int) by omega,getI_nat,List.getElem?_set_ne (by omega)];exact q.2
 ·have f2:=Km d1 d2 (k:=0) hp;rw [Nat.zero_add] at f2;unfold Cb;rw [if_pos ⟨by omega,by rw [List.length_set];omega⟩,show (2*(e:Int)+1).toNat=2*e+1 by omega,f2]
theorem ckJ {x:Int} (h:-1000000000000000≤x∧x≤1000000000000000):ck x=some x:=by unfold ck;rw [if_pos ⟨by omega,by omega⟩]
def G9 (a b:List api_Span) (most:Nat) (r:Nat) (s:api_Span):Prop:=(∃p,PF a b most (-1) ⟨0,0⟩ p∧p[r]? = some s.Hi)∧(∃p,PF a b most (-1) ⟨0,0⟩ p∧p[r]? = some s.Lo)∧∀p,PF a b most (-1) ⟨0,0⟩ p→∀x,p[r]? = some x→s.Lo≤x∧x≤s.Hi
theorem Dz (r:Nat):gS (-1) ⟨0,0⟩ r=⟨0,1073741824⟩:=by
 unfold gS;rw [show ((r:Int) == -1)=false by simp];rfl
section
variable {a b:List api_Span} {most:Nat} {F:Nat} {fr:List (List Int)}
theorem Uc (ha:0<a.length∧a.length≤100) (hb:0<b.length∧b.length≤100) (hF:1000000000000≤F) (hk:∀c∈D4 a b most (-1) ⟨0,0⟩,okC (a.length+b.length+3) ((a.length:Int)+b.length+1) ((a.length:Int)+b.length+2) c) {f:List Int} (hf:Circ (D4 a b most (-1) ⟨0,0⟩) f)
  (hfr:FR (a.length+b.length+3) fr (flatP 0 (rsP ((a.length:Int)+b.length+1) ((a.length:Int)+b.length+2) (D4 a b most (-1) ⟨0,0⟩) f))) {r:Nat} (hr:r<most) (up:Bool) :
  ∃(e:Nat) (p:prP) (q:Int×List arcP) (R:List prP),e=(netQ ((a.length:Int)+b.length+1) ((a.length:Int)+b.length+2) (gM a.length b.length (-1) ⟨0,0⟩ r)).length∧(rsP ((a.length:Int)+b.length+1) ((a.length:Int)+b.length+2) (D4 a b most (-1) ⟨0,0⟩) f)[e]? = some p ∧
   Ef F fr (bif up then p.v else p.u) (bif up then p.u else p.v) (bif up then p.r else p.c) (2*(e:Int)) F 0 (flatP 0 (rsP ((a.length:Int)+b.length+1) ((a.length:Int)+b.length+2) (D4 a b most (-1) ⟨0,0⟩) f))=some q∧q.2=flatP 0 R∧R[e]? = some p∧FR (a.length+b.length+3) fr q.2 ∧
   (0≤p.r∧p.r≤1073741824)∧(0≤p.c∧p.c≤1073741824)∧0≤q.1∧q.1≤1073741824∧∃f2,Circ (D4 a b most (-1) ⟨0,0⟩) f2∧R.set e ⟨p.u,p.v,bif up then p.r-q.1 else p.r+q.1,bif up then p.c+q.1 else p.c-q.1⟩=rsP ((a.length:Int)+b.length+1) ((a.length:Int)+b.length+2) (D4 a b most (-1) ⟨0,0⟩) f2 ∧
    ∃p2 f3 x,f2=p2++f3∧PF a b most (-1) ⟨0,0⟩ p2∧p2[r]? = some x∧∀p3,PF a b most (-1) ⟨0,0⟩ p3→∀y,p3[r]? = some y→bif up then y≤x else x≤y:=by
 obtain ⟨M,hM⟩:∃M,M=D4 a b most (-1) ⟨0,0⟩:=⟨_,rfl⟩;obtain ⟨e0,he0⟩:∃e0:Int,e0=(a.length:Int)+b.length+1:=⟨_,rfl⟩;obtain ⟨e1,he1⟩:∃e1:Int,e1=(a.length:Int)+b.length+2:=⟨_,rfl⟩;obtain ⟨p0,f0,rfl,hp0⟩:=Ly ha.1 hb.1 hf;obtain ⟨x0,hx0⟩:∃x,p0[r]? = some x:=⟨_,List.getElem?_eq_getElem (by rw [hp0.len];exact hr)⟩;have g0:=Fz (a:=a) (b:=b) (gate:=-1) (power:=⟨0,0⟩) (f2:=f0) (e0:=e0) (e1:=e1) hp0.len hx0;have b0:=hp0.gb r x0 hx0;rw [Dz] at g0 b0;have hmu:=Nat.mod_lt r ha.1;have hmv:=Nat.mod_lt r hb.1;rw [←he0,←he1] at hk hfr ⊢;generalize hee:(netQ e0 e1 (gM a.length b.length (-1) ⟨0,0⟩ r)).length=e at g0 ⊢;rw [←hM] at hk hf hfr g0 ⊢;have fin:∀(R:List prP) (q:Int) (d1 d2:Int),R[e]? = some ⟨((r%a.length:Nat):Int),((a.length+r%b.length:Nat):Int),1073741824-x0,x0-0⟩→Sm (netQ e0 e1 M) R→NN R→0≤d1→0≤d2→d1+d2=1073741824→(∀φ,WQ φ R=WQ φ (rsP e0 e1 M (p0++f0))+(1073741824-x0-d1)*(φ ((a.length+r%b.length:Nat):Int)-φ ((r%a.length:Nat):Int))) →
   ∃f2,Circ M f2∧R.set e ⟨((r%a.length:Nat):Int),((a.length+r%b.length:Nat):Int),d1,d2⟩=rsP e0 e1 M f2∧∃p2 f3,f2=p2++f3∧PF a b most (-1) ⟨0,0⟩ p2∧p2[r]? = some d2:=by
  intro R q d1 d2 hRe hS hN h1 h2 h3 hw;have hl:=(List.getElem?_eq_some_iff.1 hRe).1;obtain ⟨f2,k1,k2⟩:=Lb (e0:=e0) (e1:=e1) (by omega) hk hf (R:=R.set e ⟨((r%a.length:Nat):Int),((a.length+r%b.length:Nat):Int),d1,d2⟩) ⟨by rw [List.length_set,hS.len],fun i u v hu hv=>by
   by_cases ei:e=i
   ·subst ei;rw [List.getElem?_set_self hl] at hv
    cases hv
    have:=hS.at_ e u _ hu hRe;dsimp only at this ⊢;exact ⟨this.1,this.2.1,by omega⟩
   ·rw [List.getElem?_set_ne ei] at hv;exact hS.at_ i u v hu hv⟩ (fun u hu=>by
   rcases List.mem_or_eq_of_mem_set hu with hu|rfl
   ·exact hN u hu
   ·exact ⟨h1,h2⟩) (fun φ=>by
   rw [M6 φ hRe,hw];dsimp only;have t1:(1073741824-x0-d1)*(φ ((a.length+r%b.length:Nat):Int)-φ ((r%a.length:Nat):Int))=(1073741824-x0-d1)*φ ((a.length+r%b.length:Nat):Int)-(1073741824-x0-d1)*φ ((r%a.length:Nat):Int):=Int.mul_sub _ _ _;have t2:(1073741824-x0-d1)*φ ((a.length+r%b.length:Nat):Int)=(1073741824-x0)*φ ((a.length+r%b.length:Nat):Int)-d1*φ ((a.length+r%b.length:Nat):Int):=Int.sub_mul _ _ _;have t3:(x0-0)*φ ((r%a.length:Nat):Int)+(1073741824-x0-d1)*φ ((r%a.length:Nat):Int)=d2*φ ((r%a.length:Nat):Int):=by rw [←Int.add_mul];congr 1;omega
   omega)
  rw [hM] at k1;obtain ⟨p2,f3,rfl,k3⟩:=Ly ha.1 hb.1 k1;obtain ⟨x2,hx2⟩:∃x,p2[r]? = some x:=⟨_,List.getElem?_eq_getElem (by rw [k3.len];exact hr)⟩;have g2:=Fz (a:=a) (b:=b) (gate:=-1) (power:=⟨0,0⟩) (f2:=f3) (e0:=e0) (e1:=e1) k3.len hx2;rw [hee,←hM,←k2,List.getElem?_set_self hl,Dz] at g2;have e2:=Option.some.inj g2;rw [prP.mk.injEq] at e2;have hd2:d2=x2:=by
   have e3:=e2.2.2.2;dsimp only at e3;omega
  rw [hM];exact ⟨_,k1,by rw [←hM];exact k2,p2,f3,rfl,k3,by rw [hx2,hd2]⟩
 have wall:∀(f2:List Int),Circ M f2→∀φ,WQ φ (rsP e0 e1 M f2)=WQ φ (rsP e0 e1 M (p0++f0)):=fun f2 h2 φ=>by
  have e1':=(Gh hk h2.bd).2.2 φ;have e2':=(Gh hk hf.bd).2.2 φ;rw [h2.cv] at e1';rw [hf.cv] at e2';omega
 have third:∀p3,PF a b most (-1) ⟨0,0⟩ p3→∀y,p3[r]? = some y→∃f3,Circ M f3∧(rsP e0 e1 M f3)[e]? = some ⟨((r%a.length:Nat):Int),((a.length+r%b.length:Nat):Int),1073741824-y,y-0⟩∧0≤y∧y≤1073741824:=fun p3 h3 y hy=>by
  have c3:=Jh ha.1 hb.1 h3;rw [List.append_assoc] at c3;have g3:=Fz (a:=a) (b:=b) (gate:=-1) (power:=⟨0,0⟩) (f2:=tab (fun i=>sumAt a.length i p3) 0 a.length++tab (fun i=>sumAt b.length i p3) 0 b.length) (e0:=e0) (e1:=e1) h3.len hy;rw [hee,Dz] at g3;have b3:=h3.gb r y hy;rw [Dz] at b3;rw [hM];exact ⟨_,c3,g3,b3⟩
 dsimp only at b0
 cases up with
 | true =>
  obtain ⟨q,R,c1,c2,c3,c4,c5,c6,c7,c8,c9,c10⟩:=Y7 (by omega) (by omega) (by omega) (by omega) hk hf hfr g0 hF (s:=((a.length+r%b.length:Nat):Int)) (d:=((r%a.length:Nat):Int)) (most:=1073741824-x0) (by omega) (by omega) (by omega);obtain ⟨f2,k1,k2,p2,f3,k3,k4,k5⟩:=fin R q.1 (1073741824-x0-q.1) (x0-0+q.1) c3 c6 c7 (by omega) (by omega) (by omega) (fun φ=>by rw [c9 φ];congr 2;omega);refine ⟨e,_,q,R,rfl,g0,c1,c2,c3,c8,by dsimp only;omega,by dsimp only;omega,c4,by omega,f2,k1,k2,p2,f3,_,k3,k4,k5,fun p3 h3 y hy=>?_⟩;show y≤x0-0+q.1;obtain ⟨f4,m1,m2,m3⟩:=third p3 h3 y hy
  by_cases hlt:q.1<1073741824-x0
  ·obtain ⟨S,z1,z2,z3⟩:=c10 hlt;have z:=z3 f4 m1 _ m2;dsimp only at z;rw [wall f4 m1,c9,show ind S ((a.length+r%b.length:Nat):Int)=1 from if_pos z1,show ind S ((r%a.length:Nat):Int)=0 from if_neg (by rw [z2];simp)] at z;omega
  ·omega
 | false =>
  obtain ⟨q,R,c1,c2,c3,c4,c5,c6,c7,c8,c9,c10⟩:=Y7 (by omega) (by omega) (by omega) (by omega) hk hf hfr g0 hF (s:=((r%a.length:Nat):Int)) (d:=((a.length+r%b.length:Nat):Int)) (most:=x0-0) (by omega) (by omega) (by omega);obtain ⟨f2,k1,k2,p2,f3,k3,k4,k5⟩:=fin R q.1 (1073741824-x0+q.1) (x0-0-q.1) c3 c6 c7 (by omega) (by omega) (by omega) (fun φ=>by
   rw [c9 φ,show 1073741824-x0-(1073741824-x0+q.1)=- q.1 by omega,Int.neg_mul,←Int.mul_neg];congr 2;omega)
  refine ⟨e,_,q,R,rfl,g0,c1,c2,c3,c8,by dsimp only;omega,by dsimp only;omega,c4,by omega,f2,k1,k2,p2,f3,_,k3,k4,k5,fun p3 h3 y hy=>?_⟩;show x0-0-q.1≤y;obtain ⟨f4,m1,m2,m3⟩:=third p3 h3 y hy
  by_cases hlt:q.1<x0-0
  ·obtain ⟨S,z1,z2,z3⟩:=c10 hlt;have z:=z3 f4 m1 _ m2;dsimp only at z;rw [wall f4 m1,c9,show ind S ((r%a.length:Nat):Int)=1 from if_pos z1,show ind S ((a.length+r%b.length:Nat):Int)=0 from if_neg (by rw [z2];simp)] at z;omega
  ·omega
end
end Go.Proofs.Ytbhjgebjojdohaa
namespace Go.Proofs.Ytbhjgebjojdohaa
open Go Go.RowKit Go.Eng
set_option maxRecDepth 10000
set_option linter.unusedVariables false
set_option linter.unusedSimpArgs false
theorem Sq {R:List prP} {e:Nat} {p:prP} (hp:R[e]? = some p) (d1 d2:Int):Top (flatP 0 R) (flatP 0 (R.set e ⟨p.u,p.v,d1,d2⟩)):=by
 have q:=C2 (k:=0) hp;have f2:=Km d1 d2 (k:=0) hp;rw [←f2];have q2:((flatP 0 R).set (2*e) ⟨p.v,d1,2*((0+e:Nat):Int)+1⟩)[2*e+1]? = some ⟨p.u,p.c,2*((0+e:Nat):Int)⟩:=by
  rw [List.getElem?_set_ne (show 2*e≠2*e+1 by omega)];exact q.2
 exact (Top.set (r:=d1) q.1).tr (Top.set (r:=d2) q2)
theorem Pw {a b:List api_Span} {most:Nat} {F:Nat} (hmo:most≤100) (ha:0<a.length∧a.length≤100) (hb:0<b.length∧b.length≤100) (hF:1000000000000≤F) (hk:∀c∈D4 a b most (-1) ⟨0,0⟩,okC (a.length+b.length+3) ((a.length:Int)+b.length+1) ((a.length:Int)+b.length+2) c) :
  ∀(k r:Nat) (f:List Int) (t:tripP) (out:List api_Span),most-r=k→r≤most→out.length=r→Circ (D4 a b most (-1) ⟨0,0⟩) f→t.net.arcs=flatP 0 (rsP ((a.length:Int)+b.length+1) ((a.length:Int)+b.length+2) (D4 a b most (-1) ⟨0,0⟩) f)→FR (a.length+b.length+3) t.net.fr t.net.arcs →
   t.gates=gN a.length b.length ((a.length:Int)+b.length+1) ((a.length:Int)+b.length+2) (-1) ⟨0,0⟩ most→t.lows=gL (-1) ⟨0,0⟩ most →
   ∃L,Gb F (t.gates.drop r) (r:Int) t out=some (out++L)∧L.length=k∧∀i s,L[i]? = some s→G9 a b most (r+i) s
 | 0,r,f,t,out,hk0,hr,hol,hf,hA,hfr,hg,hw=>by
  have:t.gates.length=most:=by rw [hg];unfold gN;rw [List.length_map,List.length_range]
  refine ⟨[],?_,rfl,fun i s h=>by simp at h⟩;rw [List.drop_eq_nil_of_le (by omega),List.append_nil];rfl
 | k+1,r,f,t,out,hk0,hr,hol,hf,hA,hfr,hg,hw=>by
  have hrm:r<most:=by omega
  rw [hA] at hfr;obtain ⟨e,p,q1,R1,he,hp,c1,c2,c3,c4,n1,n2,n3,n4,f2,hf2,hR2,p2,f3,x2,hx2,hp2,hpx,hmax⟩:=Uc ha hb hF hk hf hfr hrm true;simp only [cond_true] at c1 hR2 hmax;have hfr2:FR (a.length+b.length+3) t.net.fr (flatP 0 (rsP ((a.length:Int)+b.length+1) ((a.length:Int)+b.length+2) (D4 a b most (-1) ⟨0,0⟩) f2)):=by
   refine K7 ?_ c4;rw [c2,←hR2];exact Sq c3 _ _
  obtain ⟨e',p',q2,R3,he',hp',d1,d2,d3,d4,m1,m2,m3,m4,f4,hf4,hR4,p4,f5,x4,hx4,hp4,hpy,hmin⟩:=Uc ha hb hF hk hf2 hfr2 hrm false;simp only [cond_false] at d1 hR4 hmin;rw [←he] at he';subst he';have hl3:=(List.getElem?_eq_some_iff.1 c3).1;have hpe:p'=⟨p.u,p.v,p.r-q1.1,p.c+q1.1⟩:=by
   rw [←hR2,List.getElem?_set_self hl3] at hp';exact (Option.some.inj hp').symm
  have hfr4:FR (a.length+b.length+3) t.net.fr (flatP 0 (rsP ((a.length:Int)+b.length+1) ((a.length:Int)+b.length+2) (D4 a b most (-1) ⟨0,0⟩) f4)):=by
   refine K7 ?_ d4;rw [d2,←hR4];exact Sq d3 _ _
  have gg:getI t.gates (r:Int)=some (2*(e':Int)):=by
   rw [getI_nat,hg,he];unfold gN;rw [List.getElem?_map,List.getElem?_range hrm];rfl
  have hgl:r<t.gates.length:=by rw [hg];unfold gN;rw [List.length_map,List.length_range];exact hrm
  have hdr:t.gates.drop r=2*(e':Int)::t.gates.drop (r+1):=by
   rw [List.drop_eq_getElem_cons hgl]
   congr 1
   rw [getI_nat,List.getElem?_eq_getElem hgl] at gg;exact Option.some.inj gg
  have b2:=hp2.gb r x2 hpx;have b4:=hp4.gb r x4 hpy;rw [Dz] at b2 b4;dsimp only at b2 b4;have pw2:Fe { t with net:=⟨t.net.fr,flatP 0 (R1.set e' ⟨p.u,p.v,p.r-q1.1,p.c+q1.1⟩)⟩ } (r:Int)=some x2:=N9 (a:=a) (b:=b) (most:=most) (gate:=-1) (power:=⟨0,0⟩) (f2:=f3) (t:={ t with net:=⟨t.net.fr,flatP 0 (R1.set e' ⟨p.u,p.v,p.r-q1.1,p.c+q1.1⟩)⟩ }) hp2.len hg hw (by rw [←hx2,←hR2]) hpx (by omega);have pw4:Fe { t with net:=⟨t.net.fr,flatP 0 (R3.set e' ⟨p'.u,p'.v,p'.r+q2.1,p'.c-q2.1⟩)⟩ } (r:Int)=some x4:=N9 (a:=a) (b:=b) (most:=most) (gate:=-1) (power:=⟨0,0⟩) (f2:=f5) (t:={ t with net:=⟨t.net.fr,flatP 0 (R3.set e' ⟨p'.u,p'.v,p'.r+q2.1,p'.c-q2.1⟩)⟩ }) hp4.len hg hw (by rw [←hx4,←hR4]) hpy (by omega);obtain ⟨L,l1,l2,l3⟩:=Pw hmo ha hb hF hk k (r+1) f4 { t with net:=⟨t.net.fr,flatP 0 (R3.set e' ⟨p'.u,p'.v,p'.r+q2.1,p'.c-q2.1⟩)⟩ } (out++[⟨x4,x2⟩]) (by omega) (by omega) (by rw [List.length_append,List.length_singleton,hol]) hf4 (by rw [←hR4]) (by dsimp only;rw [hR4];exact hfr4) hg hw;refine ⟨⟨x4,x2⟩::L,?_,by rw [List.length_cons,l2],fun i s hs=>?_⟩
  ·obtain ⟨w1,w2⟩:=Hg hp;obtain ⟨w3,w4⟩:=Hg c3;obtain ⟨A1,s1,s2,s3⟩:=S4 c3 (p.r-q1.1) (p.c+q1.1);obtain ⟨w5,w6⟩:=Hg hp';obtain ⟨w7,w8⟩:=Hg d3;obtain ⟨A3,s5,s6,s7⟩:=S4 d3 (p'.r+q2.1) (p'.c-q2.1);have nb:((2*(e':Int)+1:Int)==2*(e':Int))=false:=by rw [beq_eq_false_iff_ne];omega
   rw [hdr,Gb,hA,A9 w1];dsimp only;rw [A9 w2];dsimp only;rw [A9 c1,c2,A9 w3];dsimp only;rw [A9 w4,nb,cond_false,A9 (ckJ (x:=p.r-q1.1) (by omega)),A9 (ckJ (x:=p.c+q1.1) (by omega)),A9 s1,A9 s2];dsimp only;rw [A9 s3,A9 pw2,hR2,A9 w5];dsimp only;rw [A9 w6];dsimp only;have d1':=d1;rw [hpe] at d1';rw [hpe];dsimp only at d1' ⊢;rw [A9 d1',d2,A9 w7];dsimp only;rw [A9 w8,nb,cond_false,A9 (ckJ (x:=p'.r+q2.1) (by omega)),A9 (ckJ (x:=p'.c-q2.1) (by omega)),A9 s5,A9 s6];dsimp only;rw [A9 s7,A9 pw4];rw [A9 (show apd 16 out [(⟨x4,x2⟩:api_Span)]=some (out++[⟨x4,x2⟩]) by unfold apd;rw [if_pos ⟨by rw [hol,List.length_singleton];omega,by rw [hol,List.length_singleton];omega⟩])];rw [List.append_assoc] at l1;rw [show (r:Int)+1=((r+1:Nat):Int) by omega];exact l1
  ·cases i with
   | zero =>
    simp at hs;subst hs;exact ⟨⟨p2,hp2,hpx⟩,⟨p4,hp4,hpy⟩,fun p3 h3 x hx=>⟨hmin p3 h3 x hx,hmax p3 h3 x hx⟩⟩
   | succ i =>
    have:=l3 i s (by simpa using hs);rw [show r+(i+1)=r+1+i by omega];exact this
theorem R4 {a b:List api_Span} (ha:0<a.length∧a.length≤100) (hb:0<b.length∧b.length≤100) (has:∀s∈a,okS s) (hbs:∀s∈b,okS s) {most:Nat} (hmo:0<most∧most≤100) {F:Nat} (hF:1000000000000≤F) (hls:Cg F a b (most:Int)=some 0) :
  (∃L,D5 F a b (most:Int)=some (L,0)∧L.length=most∧∀r s,L[r]? = some s→G9 a b most r s)∨(D5 F a b (most:Int)=some ([],14)∧∀p,¬PF a b most (-1) ⟨0,0⟩ p):=by
 obtain ⟨t,is,h1,h2,h3,h4,h5,h6,h7⟩:=Pf ha hb has hbs hmo.2 (gate:=-1) (power:=⟨0,0⟩) ⟨Int.le_refl _,Int.le_refl _,by decide⟩ hF;have head:D5 F a b (most:Int)=bif !is then some ([],14) else (Gb F t.gates 0 t []).bind fun out=>some (out,0):=by
  unfold D5;rw [A9 hls,show ((0:Int) != 0)=false from rfl,cond_false,A9 h1]
 cases is with
 | true =>
  obtain ⟨f,c1,c2⟩:=h6 rfl;obtain ⟨L,l1,l2,l3⟩:=Pw hmo.2 ha hb hF h5 (most-0) 0 f t [] rfl (Nat.zero_le _) rfl c1 c2 h4 h2 h3;left;refine ⟨L,?_,by rw [l2];rfl,fun r s hs=>by have:=l3 r s hs;rw [Nat.zero_add] at this;exact this⟩;rw [List.drop_zero,show ((0:Nat):Int)=0 from rfl,List.nil_append] at l1;rw [head];show ((Gb F t.gates 0 t []).bind _)=_;rw [A9 l1]
 | false =>
  right;exact ⟨head.trans rfl,fun p hp=>h7 rfl _ (Jh ha.1 hb.1 hp)⟩
end Go.Proofs.Ytbhjgebjojdohaa
namespace Go.Proofs.Ytbhjgebjojdohaa
open Go Go.RowKit Go.Eng
set_option maxRecDepth 10000
set_option linter.unusedVariables false
set_option linter.unusedSimpArgs false
theorem Zj (r:Nat) (s:api_Span):gS (r:Int) s r=s:=by unfold gS;rw [show ((r:Int)==(r:Int))=true by simp];rfl
theorem Zk {r i:Nat} (h:i≠r) (s:api_Span):gS (r:Int) s i=⟨0,1073741824⟩:=by
 unfold gS;rw [show ((i:Int)==(r:Int))=false by rw [beq_eq_false_iff_ne];omega];rfl
theorem Py {a b:List api_Span} {most r:Nat} {x y:Int} (hx:0≤x) (hy:y≤1073741824) (p:List Int):PF a b most (r:Int) ⟨x,y⟩ p↔PF a b most (-1) ⟨0,0⟩ p∧∀z,p[r]? = some z→x≤z∧z≤y:=by
 constructor
 ·intro h;have h1:∀z,p[r]? = some z→x≤z∧z≤y:=fun z hz=>by
   have:=h.gb r z hz;rw [Zj] at this;exact this
  refine ⟨⟨h.len,fun i z hz=>?_,h.sa,h.sb⟩,h1⟩;rw [Dz]
  by_cases e:i=r
  ·subst e;have:=h1 z hz;exact ⟨by dsimp only;omega,by dsimp only;omega⟩
  ·have:=h.gb i z hz;rw [Zk e] at this;exact this
 ·rintro ⟨h,h1⟩;refine ⟨h.len,fun i z hz=>?_,h.sa,h.sb⟩
  by_cases e:i=r
  ·subst e;rw [Zj];exact h1 z hz
  ·have:=h.gb i z hz;rw [Dz] at this;rw [Zk e];exact this
theorem Ld {ψ:Nat→Int} (hψ:∀i,0≤ψ i):∀(p:List Int) (k:Nat),(∀x∈p,0≤x)→0≤Cv ψ k p
 | [],_,_=>Int.le_refl _
 | x::p,k,h=>by
  rw [Cv];have:=Ld hψ p (k+1) fun y hy=>h y (List.mem_cons_of_mem _ hy);have:=Int.mul_nonneg (h x (List.mem_cons_self ..)) (hψ k);omega
theorem Ug {ψ:Nat→Int} (hψ:∀i,0≤ψ i):∀(p:List Int) (k r:Nat) (x:Int),(∀x∈p,0≤x)→p[r]? = some x→ψ (k+r)=1→x≤Cv ψ k p
 | [],_,_,_,_,h,_=>by simp at h
 | y::p,k,0,x,h,hx,h1=>by
  simp at hx;subst hx;rw [Cv];have:=Ld hψ p (k+1) fun y hy=>h y (List.mem_cons_of_mem _ hy);rw [Nat.add_zero] at h1;rw [h1];omega
 | y::p,k,r+1,x,h,hx,h1=>by
  rw [Cv];have:=Ug hψ p (k+1) r x (fun y hy=>h y (List.mem_cons_of_mem _ hy)) (by simpa using hx) (by rw [←h1];congr 1;omega);have:=Int.mul_nonneg (h y (List.mem_cons_self ..)) (hψ k);omega
theorem U2 {a b:List api_Span} {most:Nat} {p:List Int} (h:PF a b most (-1) ⟨0,0⟩ p):∀x∈p,0≤x∧x≤1073741824:=fun x hx=>by
 obtain ⟨i,hi⟩:=List.mem_iff_getElem?.1 hx;have:=h.gb i x hi;rw [Dz] at this;exact this
theorem Zr {a b:List api_Span} {most r:Nat} {p:List Int} (h:PF a b most (-1) ⟨0,0⟩ p) {x:Int} (hx:p[r]? = some x) {s t:api_Span} (hs:a[r%a.length]? = some s) (ht:b[r%b.length]? = some t):x≤s.Hi∧x≤t.Hi:=by
 have nn:=fun y hy=>(U2 h y hy).1;have g:∀n,x≤sumAt n (r%n) p:=fun n=>Ug (fun i=>by split<;>omega) p 0 r x nn hx (by rw [Nat.zero_add];exact if_pos rfl);exact ⟨Int.le_trans (g _) (h.sa _ _ hs).2,Int.le_trans (g _) (h.sb _ _ ht).2⟩
section
variable {a b:List api_Span} {most r:Nat} {F:Nat}
end
end Go.Proofs.Ytbhjgebjojdohaa
namespace Go.Proofs.Ytbhjgebjojdohaa
open Go Go.RowKit Go.Eng
set_option maxRecDepth 10000
set_option linter.unusedVariables false
set_option linter.unusedSimpArgs false
end Go.Proofs.Ytbhjgebjojdohaa
namespace Go.Proofs.Ytbhjgebjojdohaa
open Go Go.RowKit Go.Eng
set_option maxRecDepth 10000
set_option linter.unusedVariables false
set_option linter.unusedSimpArgs false
end Go.Proofs.Ytbhjgebjojdohaa
namespace Go.Proofs.Ytbhjgebjojdohaa
open Go Go.RowKit Go.Eng
set_option maxRecDepth 10000
set_option linter.unusedVariables false
set_option linter.unusedSimpArgs false
def okB (s:api_Span):Bool:=decide (0≤s.Lo)&&decide (s.Lo≤s.Hi)&&decide (s.Hi≤1073741824)
theorem Z0 (s:api_Span):okB s=true↔okS s:=by unfold okB okS;simp [and_assoc]
theorem Xl (s:api_Span):(bif (bif decide (s.Lo<0) then true else decide (s.Lo>s.Hi)) then true else decide (s.Hi>1073741824))=!okB s:=by
 unfold okB
 by_cases h1:s.Lo<0
 ·rw [decide_eq_true h1,decide_eq_false (show ¬0≤s.Lo by omega)];rfl
 ·rw [decide_eq_false h1,decide_eq_true (show 0≤s.Lo by omega)]
  by_cases h2:s.Lo>s.Hi
  ·rw [decide_eq_true h2,decide_eq_false (show ¬s.Lo≤s.Hi by omega)];rfl
  ·rw [decide_eq_false h2,decide_eq_true (show s.Lo≤s.Hi by omega)]
   by_cases h3:s.Hi>1073741824
   ·rw [decide_eq_true h3,decide_eq_false (show ¬s.Hi≤1073741824 by omega)];rfl
   ·rw [decide_eq_false h3,decide_eq_true (show s.Hi≤1073741824 by omega)];rfl
def S1 (l:List api_Span):Bool:=decide (1≤l.length)&&decide (l.length≤200)&&l.all okB
def A0f (a b:List api_Span) (most:Int):Int:=if S1 a=true∧S1 b=true∧1≤most∧most≤800 then 0 else 3
theorem Mg {α:Type} {l:List α} {i:Nat} (h:i<l.length):∃x,l.drop i=x::l.drop (i+1)∧getI l (i:Int)=some x:=⟨l[i],List.drop_eq_getElem_cons h,by rw [getI_nat];exact List.getElem?_eq_getElem h⟩
theorem X5 (x2:Int) (k2:Int→Option Int) (l:List api_Span) (hl:l.length≤200):∀(G i:Nat),i≤l.length→l.length-i<G→Cs x2 k2 l G (i:Int)=if (l.drop i).all okB=true then D6 x2 k2 else some 3
 | 0,_,_,h=>by omega
 | G+1,i,hi,hG=>by
  rw [Cs,Dx]
  by_cases hlt:i<l.length
  ·obtain ⟨x,hd,hx⟩:=Mg hlt;rw [decide_eq_true (by omega:(i:Int)<((l.length:Nat):Int)),cond_true,A9 hx,Xl,hd,List.all_cons]
   cases hb:okB x with
   | true =>
    rw [Bool.not_true,cond_false,Bool.true_and];rw [A9 (show ck ((i:Int)+1)=some ((i+1:Nat):Int) by unfold ck;rw [if_pos ⟨by omega,by omega⟩,Int.natCast_add];rfl)];exact X5 x2 k2 l hl G (i+1) (by omega) (by omega)
   | false=>rw [Bool.not_false,cond_true,Bool.false_and,if_neg (by simp)]
  ·rw [decide_eq_false (by omega:¬(i:Int)<((l.length:Nat):Int)),cond_false,List.drop_eq_nil_of_le (by omega)];rfl
theorem X4 {F:Nat} {a b:List api_Span} {most:Int} (hF:1000000000000≤F) (l:List api_Span) (i:Nat) (hi:i<2) (hg:getI [a,b] (i:Int)=some l) (k2:Int→Option Int):Cr F a b most k2 (i:Int)=if S1 l=true then k2 ((i+1:Nat):Int) else some 3:=by
 rw [Cr,decide_eq_true (by omega:(i:Int)<((2:Nat):Int)),cond_true,A9 hg];unfold S1
 by_cases h1:1≤l.length
 ·rw [decide_eq_false (by omega:¬((l.length:Nat):Int)<1),cond_false,decide_eq_true h1]
  by_cases h2:l.length≤200
  ·rw [decide_eq_false (by omega:¬((l.length:Nat):Int)>200),cond_false,decide_eq_true h2,Bool.true_and];have:=X5 (i:Int) k2 l h2 F 0 (Nat.zero_le _) (by omega);rw [List.drop_zero,show ((0:Nat):Int)=0 from rfl] at this;rw [this,D6,A9 (show ck ((i:Int)+1)=some ((i+1:Nat):Int) by unfold ck;rw [if_pos ⟨by omega,by omega⟩,Int.natCast_add];rfl)];rfl
  ·rw [decide_eq_true (by omega:((l.length:Nat):Int)>200),cond_true,decide_eq_false h2,if_neg (by simp)]
 ·rw [decide_eq_true (by omega:((l.length:Nat):Int)<1),cond_true,cond_true,decide_eq_false h1,if_neg (by simp)]
theorem Yo {F:Nat} {a b:List api_Span} {most:Int} (hF:1000000000000≤F):Cg F a b most=some (A0f a b most):=by
 unfold Cg;obtain ⟨G,rfl⟩:∃G,F=G+3:=⟨F-3,by omega⟩;have e0:=X4 (F:=G+3) (a:=a) (b:=b) (most:=most) hF a 0 (by omega) rfl (Bn (G+3) a b most (G+2));have e1:=X4 (F:=G+3) (a:=a) (b:=b) (most:=most) hF b 1 (by omega) rfl (Bn (G+3) a b most (G+1));rw [show (0:Int)=((0:Nat):Int) from rfl,Bn,e0];unfold A0f
 by_cases ha:S1 a=true
 ·rw [if_pos ha,Bn,e1]
  by_cases hb:S1 b=true
  ·rw [if_pos hb,Bn,Cr,decide_eq_false (by omega:¬((1+1:Nat):Int)<((2:Nat):Int)),cond_false,Dy]
   by_cases h1:most<1
   ·rw [decide_eq_true h1,cond_true,cond_true,if_neg (fun h=>by omega)]
   ·rw [decide_eq_false h1,cond_false]
    by_cases h2:most>800
    ·rw [decide_eq_true h2,cond_true,if_neg (fun h=>by omega)]
    ·rw [decide_eq_false h2,cond_false,if_pos ⟨ha,hb,by omega,by omega⟩]
  ·rw [if_neg hb,if_neg (fun h=>hb h.2.1)]
 ·rw [if_neg ha,if_neg (fun h=>ha h.1)]
end Go.Proofs.Ytbhjgebjojdohaa
namespace Go.Proofs.Ytbhjgebjojdohaa
open Go Go.RowKit Go.Eng
set_option maxRecDepth 10000
set_option linter.unusedVariables false
set_option linter.unusedSimpArgs false
end Go.Proofs.Ytbhjgebjojdohaa
namespace Go.Proofs.Ytbhjgebjojdohaa
open Go Go.RowKit Go.Eng
set_option maxRecDepth 10000
set_option linter.unusedVariables false
set_option linter.unusedSimpArgs false
theorem Pg (ψ:Nat→Int):∀(p:List Int) (k:Nat) (x:Int),Cv ψ k (p++[x])=Cv ψ k p+x*ψ (k+p.length)
 | [],k,x=>by show x*ψ k+0=0+x*ψ (k+0);rw [Nat.add_zero];omega
 | y::p,k,x=>by
  rw [List.cons_append,Cv,Cv,Pg ψ p (k+1) x,List.length_cons,show k+(p.length+1)=k+1+p.length by omega];omega
def sums (n:Nat) (p:List Int):List Int:=(List.range n).map fun i=>sumAt n i p
theorem Dn {n:Nat} {p:List Int} {i:Nat} (h:i<n):getI (sums n p) (i:Int)=some (sumAt n i p):=by
 rw [getI_nat];unfold sums;rw [List.getElem?_map,List.getElem?_range h];rfl
theorem Ft (n:Nat) (p:List Int):(sums n p).length=n:=by unfold sums;rw [List.length_map,List.length_range]
theorem Nq {n:Nat} {p:List Int} {x:Int} (hn:0<n):Cb (sums n p) ((p.length%n:Nat):Int) (sumAt n (p.length%n) p+x)=some (sums n (p++[x])):=by
 have hm:=Nat.mod_lt p.length hn;unfold Cb;rw [if_pos ⟨by omega,by rw [Ft];omega⟩,Int.toNat_natCast]
 congr 1
 apply List.ext_getElem?;intro i;have hs:∀i,sumAt n i (p++[x])=sumAt n i p+x*(if p.length%n=i then 1 else 0):=fun i=>by
  unfold sumAt;rw [Pg,Nat.zero_add]
 by_cases hi:i<n
 ·have e:(sums n (p++[x]))[i]? = some (sumAt n i (p++[x])):=by unfold sums;rw [List.getElem?_map,List.getElem?_range hi];rfl
  rw [e,hs]
  by_cases ei:p.length%n=i
  ·rw [ei,List.getElem?_set_self (by rw [Ft];exact hi),if_pos rfl,Int.mul_one]
  ·rw [List.getElem?_set_ne ei,if_neg ei,Int.mul_zero,Int.add_zero];unfold sums;rw [List.getElem?_map,List.getElem?_range hi];rfl
 ·rw [List.getElem?_eq_none (by rw [List.length_set,Ft];omega),List.getElem?_eq_none (by rw [Ft];omega)]
theorem Y9 {n i:Nat}:∀(p:List Int),(∀x∈p,0≤x∧x≤1073741824)→0≤sumAt n i p∧sumAt n i p≤1073741824*(p.length:Int):=by
 have key:∀(p:List Int) (k:Nat),(∀x∈p,0≤x∧x≤1073741824)→0≤Cv (fun r=>if r%n=i then 1 else 0) k p∧Cv (fun r=>if r%n=i then 1 else 0) k p≤1073741824*(p.length:Int):=by
  intro p
  induction p with
  | nil=>intro k _;exact ⟨Int.le_refl _,Int.le_refl _⟩
  | cons x p ih =>
   intro k h;have hx:=h x (List.mem_cons_self ..);have:=ih (k+1) fun y hy=>h y (List.mem_cons_of_mem _ hy);rw [Cv,List.length_cons]
   split
   ·rw [Int.mul_one];omega
   ·rw [Int.mul_zero];omega
 exact fun p h=>key p 0 h
end Go.Proofs.Ytbhjgebjojdohaa
namespace Go.Proofs.Ytbhjgebjojdohaa
open Go Go.RowKit Go.Eng
set_option maxRecDepth 10000
set_option linter.unusedVariables false
set_option linter.unusedSimpArgs false
end Go.Proofs.Ytbhjgebjojdohaa
