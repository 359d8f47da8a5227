import Derived.Test.YtbhjgebjojdohaaF7XD
set_option linter.unusedVariables false
set_option linter.unusedSimpArgs false
set_option linter.unusedSectionVars false
namespace Go.Proofs.Ytbhjgebjojdohaa
open Go Go.RowKit Go.Eng
set_option maxRecDepth 10000
set_option linter.unusedVariables false
set_option linter.unusedSimpArgs false
def W (φ:Int→Int) (A:List arcP):Int:=(A.map fun x=>x.room*φ x.to).sum
theorem Mh (φ:Int→Int) (x:arcP) (A:List arcP):W φ (x::A)=x.room*φ x.to+W φ A:=by unfold W;rw [List.map_cons,List.sum_cons]
theorem Zr (φ:Int→Int):∀{A:List arcP} {i:Nat} {x y:arcP},A[i]? = some x→W φ (A.set i y)=W φ A-x.room*φ x.to+y.room*φ y.to
 | [],i,x,y,h=>by simp at h
 | a::A,0,x,y,h=>by
  simp at h;subst h;rw [List.set_cons_zero,Mh,Mh];omega
 | a::A,i+1,x,y,h=>by
  simp only [List.getElem?_cons_succ] at h;rw [List.set_cons_succ,Mh,Mh,Zr φ h];omega
def Top (A B:List arcP):Prop:=B.length=A.length∧∀(i:Nat) (x:arcP),A[i]? = some x→∃r,B[i]? = some ⟨x.to,r,x.twin⟩
theorem Top.rfl (A:List arcP):Top A A:=⟨by rfl,fun i x h=>⟨x.room,h⟩⟩
theorem Top.tr {A B C:List arcP} (h:Top A B) (k:Top B C):Top A C:=⟨k.1.trans h.1,fun i x hx=>by
 obtain ⟨r,h1⟩:=h.2 i x hx;obtain ⟨q,h2⟩:=k.2 i _ h1;exact ⟨q,h2⟩⟩
theorem Top.set {A:List arcP} {i:Nat} {x:arcP} {r:Int} (h:A[i]? = some x):Top A (A.set i ⟨x.to,r,x.twin⟩):=by
 refine ⟨List.length_set,fun j y hy=>?_⟩
 by_cases e:i=j
 ·subst e;rw [h] at hy;cases hy
  exact ⟨r,by rw [List.getElem?_set_self (List.getElem?_eq_some_iff.1 h).1]⟩
 ·exact ⟨y.room,by rw [List.getElem?_set_ne e];exact hy⟩
theorem Top.symm {A B:List arcP} (h:Top A B):Top B A:=by
 refine ⟨h.1.symm,fun i y hy=>?_⟩;have hi:i<A.length:=by rw [←h.1];exact (List.getElem?_eq_some_iff.1 hy).1
 obtain ⟨r,hr⟩:=h.2 i _ (List.getElem?_eq_getElem hi);rw [hr] at hy;cases hy
 exact ⟨A[i].room,List.getElem?_eq_getElem hi⟩
structure GA (n:Nat) (C:Int) (A:List arcP):Prop where
 to:∀(i:Nat) (x:arcP),A[i]? = some x→0≤x.to∧x.to<n
 tw:∀(i:Nat) (x:arcP),A[i]? = some x→∃(j:Nat) (y:arcP),x.twin=j∧A[j]? = some y∧y.twin=(i:Nat)∧j≠i∧x.room+y.room≤C
 room:∀(i:Nat) (x:arcP),A[i]? = some x→0≤x.room
def Sums (A B:List arcP):Prop:=∀(i j:Nat) (x y x' y':arcP),A[i]? = some x→A[j]? = some y→x.twin=(j:Nat)→B[i]? = some x'→B[j]? = some y'→x'.room+y'.room=x.room+y.room
theorem Sums.rfl (A:List arcP):Sums A A:=fun i j x y x' y' h1 h2 h3 h4 h5=>by rw [h1] at h4;rw [h2] at h5;cases h4;cases h5;rfl
theorem Sums.tr {A B C:List arcP} (ht:Top A B) (h:Sums A B) (k:Sums B C):Sums A C:=fun i j x y x' y' h1 h2 h3 h4 h5=>by
 obtain ⟨r,hr⟩:=ht.2 i x h1;obtain ⟨q,hq⟩:=ht.2 j y h2;have:=h i j x y _ _ h1 h2 h3 hr hq;have:=k i j _ _ x' y' hr hq h3 h4 h5;omega
theorem GA.keep {n:Nat} {C:Int} {A B:List arcP} (h:GA n C A) (ht:Top A B) (hs:Sums A B) (hr:∀(i:Nat) (x:arcP),B[i]? = some x→0≤x.room):GA n C B:=by
 refine ⟨fun i y hy=>?_,fun i y hy=>?_,hr⟩
 ·obtain ⟨r,hx⟩:=ht.symm.2 i y hy;have:=h.to i _ hx;exact this
 ·obtain ⟨r,hx⟩:=ht.symm.2 i y hy;obtain ⟨j,z,h1,h2,h3,h4,h5⟩:=h.tw i _ hx;obtain ⟨q,hq⟩:=ht.2 j z h2;have:=hs i j _ z y _ hx h2 h1 hy hq;exact ⟨j,_,h1,hq,h3,h4,by dsimp only at *;omega⟩
def Eu (A:List arcP) (i j:Nat) (x y:arcP) (k:Int):List arcP:=(A.set i ⟨x.to,x.room-k,x.twin⟩).set j ⟨y.to,y.room+k,y.twin⟩
theorem Zv {n:Nat} {C:Int} {A:List arcP} {i j:Nat} {x y:arcP} {k:Int} (h:GA n C A) (hx:A[i]? = some x) (hj:x.twin=j) (hy:A[j]? = some y) (hyt:y.twin=(i:Nat)) (hij:j≠i) (hk:0≤k) (hr:k≤x.room) :
  GA n C (Eu A i j x y k)∧Top A (Eu A i j x y k)∧Sums A (Eu A i j x y k)∧(∀φ,W φ (Eu A i j x y k)=W φ A+k*(φ y.to-φ x.to))∧(∀(l:Nat) (z:arcP),l≠i→A[l]? = some z→∃r,z.room≤r∧(Eu A i j x y k)[l]? = some ⟨z.to,r,z.twin⟩)∧(∀l:Nat,l≠i→l≠j→(Eu A i j x y k)[l]? = A[l]?):=by
 have e:Eu A i j x y k=(A.set i ⟨x.to,x.room-k,x.twin⟩).set j ⟨y.to,y.room+k,y.twin⟩:=rfl;have hi:=(List.getElem?_eq_some_iff.1 hx).1;have hjl:=(List.getElem?_eq_some_iff.1 hy).1;have hy':(A.set i ⟨x.to,x.room-k,x.twin⟩)[j]? = some y:=by rw [List.getElem?_set_ne (fun e=>hij e.symm)];exact hy
 have top:Top A (Eu A i j x y k):=by rw [e];exact (Top.set hx).tr (Top.set hy')
 have gi:(Eu A i j x y k)[i]? = some ⟨x.to,x.room-k,x.twin⟩:=by
  rw [e,List.getElem?_set_ne hij,List.getElem?_set_self hi]
 have gj:(Eu A i j x y k)[j]? = some ⟨y.to,y.room+k,y.twin⟩:=by
  rw [e,List.getElem?_set_self (by rw [List.length_set];exact hjl)]
 have go:∀l:Nat,l≠i→l≠j→(Eu A i j x y k)[l]? = A[l]?:=by
  intro l h1 h2;rw [e,List.getElem?_set_ne (fun q=>h2 q.symm),List.getElem?_set_ne (fun q=>h1 q.symm)]
 have sums:Sums A (Eu A i j x y k):=by
  intro a b u v u' v' h1 h2 h3 h4 h5
  by_cases ea:a=i
  ·subst ea;rw [hx] at h1;cases h1
   have eb:b=j:=by rw [hj] at h3;omega
   subst eb;rw [hy] at h2;cases h2
   rw [gi] at h4;rw [gj] at h5;cases h4;cases h5
   dsimp only;omega
  ·by_cases ea2:a=j
   ·subst ea2;rw [hy] at h1;cases h1
    have eb:b=i:=by rw [hyt] at h3;omega
    subst eb;rw [hx] at h2;cases h2
    rw [gj] at h4;rw [gi] at h5;cases h4;cases h5
    dsimp only;omega
   ·rw [go a ea ea2,h1] at h4;cases h4
    obtain ⟨c,z,w1,w2,w3,w4,_⟩:=h.tw a _ h1;have ebc:b=c:=by rw [w1] at h3;omega
    subst ebc;rw [h2] at w2;cases w2
    have b1:b≠i:=by
     intro q;subst q;rw [hx] at h2;cases h2
     rw [hj] at w3;omega
    have b2:b≠j:=by
     intro q;subst q;rw [hy] at h2;cases h2
     rw [hyt] at w3;omega
    rw [go b b1 b2,h2] at h5;cases h5
    rfl
 have rm:∀(l:Nat) (z:arcP),(Eu A i j x y k)[l]? = some z→0≤z.room:=by
  intro l z hz
  by_cases h1:l=i
  ·subst h1;rw [gi] at hz;cases hz;dsimp only;omega
  ·by_cases h2:l=j
   ·subst h2;rw [gj] at hz;cases hz;have:=h.room _ _ hy;dsimp only;omega
   ·rw [go l h1 h2] at hz;exact h.room _ _ hz
 refine ⟨h.keep top sums rm,top,sums,fun φ=>?_,fun l z h1 hz=>?_,go⟩
 ·rw [e,Zr φ hy',Zr φ hx];dsimp only;have a1:(x.room-k)*φ x.to=x.room*φ x.to-k*φ x.to:=Int.sub_mul _ _ _;have a2:(y.room+k)*φ y.to=y.room*φ y.to+k*φ y.to:=Int.add_mul _ _ _;have a3:k*(φ y.to-φ x.to)=k*φ y.to-k*φ x.to:=Int.mul_sub _ _ _;omega
 ·by_cases h2:l=j
  ·subst h2;rw [hy] at hz;cases hz
   exact ⟨_,by omega,gj⟩
  ·exact ⟨z.room,Int.le_refl _,by rw [go l h1 h2];exact hz⟩
end Go.Proofs.Ytbhjgebjojdohaa
namespace Go.Proofs.Ytbhjgebjojdohaa
open Go Go.RowKit Go.Eng
set_option maxRecDepth 10000
set_option linter.unusedVariables false
set_option linter.unusedSimpArgs false
theorem D7 {α:Type} {l:List α} {i:Int} (h:0≤i∧i<(l.length:Int)):∃x,getI l i=some x:=by
 refine ⟨l[i.toNat]'(by omega),?_⟩;unfold getI;rw [if_pos h.1];exact List.getElem?_eq_getElem (by omega)
theorem getI_nat {α:Type} {l:List α} {i:Nat}:getI l (i:Int)=l[i]?:=by unfold getI;rw [if_pos (by omega),Int.toNat_natCast]
theorem Bm {α:Type} {l:List α} {i:Int} {x:α} (h:getI l i=some x):∃k:Nat,i=k∧l[k]? = some x:=by
 unfold getI at h
 split at h
 ·exact ⟨i.toNat,by omega,h⟩
 ·cases h
theorem G9 {α:Type} {l:List α} {i:Int} {x y:α} (h:getI l i=some x):∃l2,B7 l i y=some l2∧l2.length=l.length∧getI l2 i=some y∧∀j,j≠i→getI l2 j=getI l j:=by
 obtain ⟨k,rfl,hk⟩:=Bm h;have hl:=(List.getElem?_eq_some_iff.1 hk).1;refine ⟨l.set k y,?_,List.length_set,?_,fun j hj=>?_⟩
 ·unfold B7;rw [if_pos ⟨by omega,by omega⟩,Int.toNat_natCast]
 ·rw [getI_nat,List.getElem?_set_self hl]
 ·unfold getI
  split
  ·rw [List.getElem?_set_ne (by omega)]
  ·rfl
def cT (met:List Bool):Nat:=(met.filter id).length
theorem A08 (met:List Bool):cT met≤met.length:=List.length_filter_le _ _
theorem W3:∀{met:List Bool} {k:Nat},met[k]? = some false→cT (met.set k true)=cT met+1
 | [],k,h=>by simp at h
 | b::met,0,h=>by simp at h;subst h;rfl
 | b::met,k+1,h=>by
  simp only [List.getElem?_cons_succ] at h;have:=W3 h;unfold cT at this ⊢;rw [List.set_cons_succ,List.filter_cons,List.filter_cons]
  split
  ·rw [List.length_cons,List.length_cons,this]
  ·exact this
def exc (A:List arcP) (but a:Int):Prop:=0≤but∧(a=but∨∃y,getI A but=some y∧a=y.twin)
def Rt (A:List arcP) (but:Int):Prop:=but<0∨∃y,getI A but=some y
theorem A2c {n:Nat} {C:Int} {A:List arcP} (hg:GA n C A) {but a:Int} (hb:Rt A but) {x:arcP} (hx:getI A a=some x) {met:List Bool} (hl:met.length=n) :
  ∃b,R8 A but a met=some (x,b)∧(b=true→0<x.room∧getI met x.to=some false∧¬exc A but a)∧(b=false→0<x.room→¬exc A but a→getI met x.to=some true):=by
 obtain ⟨k,rfl,hk⟩:=Bm hx;obtain ⟨m,hm⟩:=D7 (l:=met) (i:=x.to) (by have:=hg.to k x hk;omega);have go:x.room>0→∀o,getI met x.to=some o→R8 A but k met=((gd ((!o)==true&&true) (if but<0 then some true else (getI A but).bind fun y=>if 0≤y.twin∧y.twin<(A.length:Int) then some (!decide ((k:Int)=but)&&!decide ((k:Int)=y.twin)) else none) default).bind fun ok=>some (x,bif !o then ok else false)):=by
  intro hr o ho;unfold R8;rw [hx];show ((gd _ _ _).bind _)=_;rw [decide_eq_true hr];show ((getI met x.to).bind _)=_;rw [ho];rfl
 by_cases hr:x.room>0
 ·cases m with
  | true=>exact ⟨false,(go hr _ hm).trans rfl,fun h=>(by cases h),fun _ _ _=>hm⟩
  | false =>
   have e0:=go hr _ hm
   by_cases h0:but<0
   ·rw [if_pos h0] at e0;exact ⟨true,e0.trans rfl,fun _=>⟨hr,hm,fun e=>(by have:=e.1;omega)⟩,fun h=>(by cases h)⟩
   ·rw [if_neg h0] at e0;rcases hb with hb|⟨y,hy⟩
    ·exact absurd hb h0
    rw [hy] at e0;obtain ⟨j,hbj,hj⟩:=Bm hy;obtain ⟨q,z,e1,e2,e3,e4,e5⟩:=hg.tw j y hj;have hq:=(List.getElem?_eq_some_iff.1 e2).1;replace e0:R8 A but k met=((if 0≤y.twin∧y.twin<(A.length:Int) then some (!decide ((k:Int)=but)&&!decide ((k:Int)=y.twin)) else none).bind fun ok=>some (x,ok)):=e0;rw [if_pos ⟨by omega,by omega⟩] at e0;refine ⟨_,e0,fun h=>?_,fun h _ hne=>?_⟩
    ·simp only [Bool.and_eq_true,Bool.not_eq_true',decide_eq_false_iff_not] at h;refine ⟨hr,hm,fun e=>?_⟩;rcases e.2 with e|⟨y',hy',e⟩
     ·exact h.1 e
     ·rw [hy] at hy';cases hy';exact h.2 e
    ·exfalso;apply hne;refine ⟨by omega,?_⟩
     by_cases h1:(k:Int)=but
     ·exact .inl h1
     ·by_cases h2:(k:Int)=y.twin
      ·exact .inr ⟨y,hy,h2⟩
      ·rw [decide_eq_false h1,decide_eq_false h2] at h;cases h
 ·refine ⟨false,?_,fun h=>(by cases h),fun _ h=>absurd h hr⟩
  unfold R8;rw [hx];show ((gd _ _ _).bind _)=_;rw [decide_eq_false hr];rfl
structure BI (n:Nat) (A:List arcP) (but u:Int) (met:List Bool) (by_:List Int) (dep:Int→Nat):Prop where
 lm:met.length=n
 lb:by_.length=n
 mu:getI met u=some true
 cnt:∀x,getI met x=some true→dep x<cT met
 tree:∀x,getI met x=some true→x≠u→∃(a:Int) (α β:arcP),getI by_ x=some a∧getI A a=some α∧getI A α.twin=some β∧α.to=x∧getI met β.to=some true∧dep β.to<dep x∧0<α.room∧¬exc A but a
def CL (fr:List (List Int)) (A:List arcP) (but:Int) (met:List Bool) (x:Int):Prop:=∀row a α,getI fr x=some row→a∈row→getI A a=some α→0<α.room→¬exc A but a→getI met α.to=some true
theorem CL.mono {fr:List (List Int)} {A:List arcP} {but x:Int} {met met2:List Bool} (h:CL fr A but met x) (hm:∀y,getI met y=some true→getI met2 y=some true):CL fr A but met2 x:=fun row a α h1 h2 h3 h4 h5=>hm _ (h row a α h1 h2 h3 h4 h5)
theorem Tw {n:Nat} {C:Int} {A:List arcP} (hg:GA n C A) {but u x0:Int} (hb:Rt A but) (hn:n≤100000):∀(l:List Int) (met:List Bool) (by_ todo:List Int) (dep:Int→Nat),BI n A but u met by_ dep→(∀a∈l,∃(α β:arcP),getI A a=some α∧getI A α.twin=some β∧β.to=x0)→getI met x0=some true→todo.length≤cT met →
  ∃met2 by2 more dep2,Jq A but l met by_ todo=some (met2,by2,todo++more)∧BI n A but u met2 by2 dep2∧(∀y,getI met y=some true→getI met2 y=some true)∧(∀a∈l,∀α,getI A a=some α→0<α.room→¬exc A but a→getI met2 α.to=some true) ∧
   (∀y,getI met2 y=some true→getI met y=some true∨y∈more)∧(∀y∈more,getI met2 y=some true)∧cT met2=cT met+more.length
 | [],met,by_,todo,dep,hI,_,_,_=>⟨met,by_,[],dep,by rw [List.append_nil];rfl,hI,fun _ h=>h,fun a h=>(by cases h),fun _ h=>.inl h,fun y h=>(by cases h),rfl⟩
 | a::l,met,by_,todo,dep,hI,hl,h0,ht=>by
  obtain ⟨α,β,hα,hβ,hβ0⟩:=hl a (List.mem_cons_self ..);obtain ⟨b,hb1,hb2,hb3⟩:=A2c hg hb hα hI.lm;rw [Jq,hb1];show ∃met2 by2 more dep2,(bif b then _ else _)=_∧_
  cases b with
  | false =>
   obtain ⟨met2,by2,more,dep2,e1,e2,e3,e4,e5,e6,e7⟩:=Tw hg hb hn l met by_ todo dep hI (fun a' h=>hl a' (List.mem_cons_of_mem _ h)) h0 ht;refine ⟨met2,by2,more,dep2,e1,e2,e3,fun a' ha' α' hα' hr hx=>?_,e5,e6,e7⟩;rcases List.mem_cons.1 ha' with rfl|ha'
   ·rw [hα] at hα';cases hα'
    exact e3 _ (hb3 rfl hr hx)
   ·exact e4 a' ha' α' hα' hr hx
  | true =>
   obtain ⟨hr,hmf,hx⟩:=hb2 rfl;obtain ⟨met1,s1,s2,s3,s4⟩:=G9 (y:=true) hmf;obtain ⟨k,hk,hmk⟩:=Bm hmf;have hkl:=(List.getElem?_eq_some_iff.1 hmk).1;obtain ⟨ob,hob⟩:=D7 (l:=by_) (i:=α.to) (by rw [hk];have:=hI.lb;have:=hI.lm;omega);obtain ⟨by1,r1,r2,r3,r4⟩:=G9 (y:=a) hob;have hc1:cT met1=cT met+1:=by
    have:=B6 s1;rw [this.2.2,hk,Int.toNat_natCast];exact W3 hmk
   have hcl:cT met1≤n:=by have:=A08 met1;rw [s2,hI.lm] at this;exact this
   have hap:apd 8 todo [α.to]=some (todo++[α.to]):=by
    unfold apd;rw [if_pos ⟨by rw [List.length_singleton];omega,by rw [List.length_singleton];omega⟩]
   have keep:∀y,getI met y=some true→getI met1 y=some true:=fun y hy=>by
    have:y≠α.to:=fun e=>by rw [e,hmf] at hy;cases hy
    rw [s4 y this];exact hy
   have hI1:BI n A but u met1 by1 (fun w=>if w=α.to then dep x0+1 else dep w):=by
    refine ⟨s2.trans hI.lm,r2.trans hI.lb,keep u hI.mu,fun y hy=>?_,fun y hy hyu=>?_⟩
    ·rw [hc1];try dsimp only
     split
     ·have:=hI.cnt x0 h0;omega
     ·rename_i hne
      rw [s4 y hne] at hy;have:=hI.cnt y hy;omega
    ·by_cases hne:y=α.to
     ·subst hne;refine ⟨a,α,β,r3,hα,hβ,rfl,?_,?_,hr,hx⟩
      ·rw [hβ0];exact keep x0 h0
      ·rw [hβ0];try dsimp only
       rw [if_pos rfl,if_neg (fun e=>by rw [←e,h0] at hmf;cases hmf)]
       omega
     ·rw [s4 y hne] at hy;obtain ⟨a',α',β',g1,g2,g3,g4,g5,g6,g7,g8⟩:=hI.tree y hy hyu;refine ⟨a',α',β',by rw [r4 y hne];exact g1,g2,g3,g4,keep _ g5,?_,g7,g8⟩;try dsimp only
      rw [if_neg hne,if_neg (fun e=>by rw [e,hmf] at g5;cases g5)]
      exact g6
   obtain ⟨met2,by2,more,dep2,e1,e2,e3,e4,e5,e6,e7⟩:=Tw hg hb hn l met1 by1 (todo++[α.to]) _ hI1 (fun a' h=>hl a' (List.mem_cons_of_mem _ h)) (keep x0 h0) (by rw [List.length_append,List.length_singleton,hc1];omega);refine ⟨met2,by2,α.to::more,dep2,?_,e2,fun y hy=>e3 y (keep y hy),fun a' ha' α' hα' hr' hx'=>?_,fun y hy=>?_,fun y hy=>?_,?_⟩
   ·show ((B7 met α.to true).bind _)=_;rw [s1];show ((B7 by_ α.to a).bind _)=_;rw [r1];show ((apd 8 todo [α.to]).bind _)=_;rw [hap];show Jq A but l met1 by1 (todo++[α.to])=_;rw [e1,List.append_assoc];rfl
   ·rcases List.mem_cons.1 ha' with rfl|ha'
    ·rw [hα] at hα';cases hα'
     exact e3 _ s3
    ·exact e4 a' ha' α' hα' hr' hx'
   ·rcases e5 y hy with h|h
    ·by_cases hne:y=α.to
     ·exact .inr (by rw [hne];exact List.mem_cons_self ..)
     ·rw [s4 y hne] at h;exact .inl h
    ·exact .inr (List.mem_cons_of_mem _ h)
   ·rcases List.mem_cons.1 hy with rfl|hy
    ·exact e3 _ s3
    ·exact e6 y hy
   ·rw [e7,hc1,List.length_cons];omega
end Go.Proofs.Ytbhjgebjojdohaa
namespace Go.Proofs.Ytbhjgebjojdohaa
open Go Go.RowKit Go.Eng
set_option maxRecDepth 10000
set_option linter.unusedVariables false
set_option linter.unusedSimpArgs false
def FR (n:Nat) (fr:List (List Int)) (A:List arcP):Prop:=fr.length=n∧(∀x row,getI fr x=some row→∀a∈row,∃(α β:arcP),getI A a=some α∧getI A α.twin=some β∧β.to=x) ∧
 ∀(a:Int) (α β:arcP),getI A a=some α→getI A α.twin=some β→∃row,getI fr β.to=some row∧a∈row
theorem A04 {n:Nat} {C:Int} {A:List arcP} (hg:GA n C A) {fr:List (List Int)} (hfr:FR n fr A) {but u v:Int} (hb:Rt A but) (hn:n≤100000) (hv:0≤v∧v<n):∀(F:Nat) (met:List Bool) (by_ todo:List Int) (dep:Int→Nat),BI n A but u met by_ dep→(∀y∈todo,getI met y=some true)→(∀y,getI met y=some true→y∈todo∨CL fr A but met y)→todo.length≤cT met→todo.length+(n-cT met)<F →
  ∃met2 by2 dep2,Sp ⟨fr,A⟩ but v F met by_ todo=some (met2,by2)∧BI n A but u met2 by2 dep2∧(getI met2 v=some true∨(getI met2 v=some false∧∀y,getI met2 y=some true→CL fr A but met2 y))
 | 0,_,_,_,_,_,_,_,_,hF=>by omega
 | F+1,met,by_,[],dep,hI,h1,h2,h3,hF=>by
  obtain ⟨mv,hmv⟩:=D7 (l:=met) (i:=v) (by rw [hI.lm];exact hv);refine ⟨met,by_,dep,rfl,hI,?_⟩
  cases mv with
  | true=>exact .inl hmv
  | false=>exact .inr ⟨hmv,fun y hy=>(h2 y hy).resolve_left (by simp)⟩
 | F+1,met,by_,x::rest,dep,hI,h1,h2,h3,hF=>by
  obtain ⟨mv,hmv⟩:=D7 (l:=met) (i:=v) (by rw [hI.lm];exact hv);have hpos:decide ((((x::rest).length:Nat):Int)>0)=true:=decide_eq_true (by rw [List.length_cons];omega);have e0:Sp ⟨fr,A⟩ but v (F+1) met by_ (x::rest)=bif !mv then (getI (x::rest) 0).bind fun x1=>(getI fr x1).bind fun row=>(Jq A but row met by_ (x::rest)).bind fun s=>(Hp s.2.2 1 (s.2.2.length:Int)).bind fun todo2=>Sp ⟨fr,A⟩ but v F s.1 s.2.1 todo2 else some (met,by_):=by
   rw [Sp,hpos];show ((getI met v).bind _)=_;rw [hmv];rfl
  cases mv with
  | true=>exact ⟨met,by_,dep,e0,hI,.inl hmv⟩
  | false =>
   have hx:=h1 x (List.mem_cons_self ..);obtain ⟨k,hk,hmk⟩:=Bm hx;have hkl:=(List.getElem?_eq_some_iff.1 hmk).1;obtain ⟨row,hrow⟩:=D7 (l:=fr) (i:=x) (by rw [hfr.1];have:=hI.lm;omega);obtain ⟨met2,by2,more,dep2,e1,e2,e3,e4,e5,e6,e7⟩:=Tw hg hb hn row met by_ (x::rest) dep hI (hfr.2.1 x row hrow) hx h3;have hc2:cT met2≤n:=by have:=A08 met2;rw [e2.lm] at this;exact this
   have hcl:CL fr A but met2 x:=fun row' a α r1 r2 r3 r4 r5=>by
    rw [hrow] at r1;cases r1
    exact e4 a r2 α r3 r4 r5
   rw [List.length_cons] at h3 hF;obtain ⟨met3,by3,dep3,f1,f2,f3⟩:=A04 hg hfr hb hn hv F met2 by2 (rest++more) dep2 e2 (fun y hy=>by
     rcases List.mem_append.1 hy with hy|hy
     ·exact e3 y (h1 y (List.mem_cons_of_mem _ hy))
     ·exact e6 y hy) (fun y hy=>by
     rcases e5 y hy with h|h
     ·rcases h2 y h with h|h
      ·rcases List.mem_cons.1 h with rfl|h
       ·exact .inr hcl
       ·exact .inl (List.mem_append_left _ h)
      ·exact .inr (h.mono e3)
     ·exact .inl (List.mem_append_right _ h)) (by rw [List.length_append];omega) (by rw [List.length_append];omega)
   refine ⟨met3,by3,dep3,?_,f2,f3⟩;rw [e0];show ((getI fr x).bind _)=_;rw [hrow];show ((Jq A but row met by_ (x::rest)).bind _)=_;rw [e1];have hcut:Hp (x::rest++more) 1 ((x::rest++more).length:Int)=some (rest++more):=by
    unfold Hp;rw [if_pos ⟨by omega,by rw [List.length_append,List.length_cons];omega,Int.le_refl _⟩]
    congr 1
    rw [Int.toNat_natCast];show ((rest++more).take _)=_;rw [List.take_of_length_le (by rw [List.cons_append,List.length_cons];omega)]
   show ((Hp (x::rest++more) 1 ((x::rest++more).length:Int)).bind _)=_;rw [hcut];exact f1
theorem Top.getI {A B:List arcP} (h:Top A B) {a:Int} {x:arcP} (hx:Go.Eng.getI A a=some x):∃r,Go.Eng.getI B a=some ⟨x.to,r,x.twin⟩:=by
 obtain ⟨k,rfl,hk⟩:=Bm hx;obtain ⟨r,hr⟩:=h.2 k x hk;exact ⟨r,by rw [getI_nat];exact hr⟩
inductive Pt (E:Int→Prop) (A:List arcP) (by_:List Int) (u k:Int) (dep:Int→Nat):Int→Prop
 | nil:Pt E A by_ u k dep u
 | cons {x a:Int} {α β:arcP}:x≠u→getI by_ x=some a→getI A a=some α→getI A α.twin=some β→α.to=x→k≤α.room→¬E a→dep β.to<dep x→Pt E A by_ u k dep β.to→Pt E A by_ u k dep x
theorem Pt.keep {E:Int→Prop} {A B:List arcP} {by_:List Int} {u k:Int} {dep:Int→Nat} {z x:Int} (ht:Top A B) (hr:∀(a:Int) (α:arcP),getI A a=some α→α.to≠z→∃r,α.room≤r∧getI B a=some ⟨α.to,r,α.twin⟩) (h:Pt E A by_ u k dep x) (hz:dep x<dep z):Pt E B by_ u k dep x:=by
 induction h with
 | nil=>exact .nil
 | cons h1 h2 h3 h4 h5 h6 h7 h8 _ ih =>
  rename_i x a α β _
  obtain ⟨r,g1,g2⟩:=hr a α h3 (fun e=>by rw [h5] at e;rw [e] at hz;omega);obtain ⟨q,g3⟩:=ht.getI h4;exact .cons h1 h2 g2 g3 h5 (Int.le_trans h6 g1) h7 h8 (ih (by omega))
theorem Us {n:Nat} {A:List arcP} {but u:Int} {met:List Bool} {by_:List Int} {dep:Int→Nat} (hI:BI n A but u met by_ dep):∀(F:Nat) (x k:Int),getI met x=some true→dep x<F→1≤k→∃k2,J9 A by_ u F x k=some k2∧1≤k2∧k2≤k∧Pt (exc A but) A by_ u k2 dep x
 | 0,_,_,_,hF,_=>by omega
 | F+1,x,k,hx,hF,hk=>by
  by_cases hxu:x=u
  ·subst hxu;refine ⟨k,?_,hk,Int.le_refl _,.nil⟩;rw [J9,show (x != x)=false by simp];rfl
  ·obtain ⟨a,α,β,g1,g2,g3,g4,g5,g6,g7,g8⟩:=hI.tree x hx hxu;obtain ⟨k2,e1,e2,e3,e4⟩:=Us hI F β.to (if α.room<k then α.room else k) g5 (by omega) (by split<;>omega);refine ⟨k2,?_,e2,by split at e3<;>omega,.cons hxu g1 g2 g3 g4 (by split at e3<;>omega) g8 g6 e4⟩;rw [J9,show (x != u)=true by simp [hxu]];have hbk:H9 A by_ x=some (a,α,β):=by
    unfold H9;rw [g1];show ((getI A a).bind _)=_;rw [g2];show ((getI A α.twin).bind _)=_;rw [g3];rfl
   rw [hbk];exact e1
theorem Vi {n:Nat} {C:Int} {E:Int→Prop} {by_:List Int} {u k:Int} {dep:Int→Nat} (hk:0≤k) (hC:C≤1000000000000000):∀(F:Nat) (x:Int) (A:List arcP),GA n C A→(∀(a:Int) (α:arcP),getI A a=some α→E α.twin→E a)→Pt E A by_ u k dep x→dep x<F →
  ∃A2,H5 by_ u k F x A=some A2∧GA n C A2∧Top A A2∧Sums A A2∧(∀φ,W φ A2=W φ A+k*(φ u-φ x))∧∀a:Int,E a→getI A2 a=getI A a
 | 0,_,_,_,_,_,hF=>by omega
 | F+1,x,A,hg,hEt,hp,hF=>by
  cases hp with
  | nil =>
   refine ⟨A,?_,hg,Top.rfl A,Sums.rfl A,fun φ=>?_,fun _ _=>rfl⟩
   ·rw [H5,show (u != u)=false by simp];rfl
   ·rw [Int.sub_self,Int.mul_zero,Int.add_zero]
  | cons h1 h2 h3 h4 h5 h6 h7 h8 h9 =>
   rename_i a α β
   obtain ⟨i,rfl,hi⟩:=Bm h3;obtain ⟨j,y,t1,t2,t3,t4,t5⟩:=hg.tw i α hi;have hyβ:y=β:=by rw [t1,getI_nat,t2] at h4;exact Option.some.inj h4
   subst hyβ;obtain ⟨o1,o2,o3,o4,o5,o6⟩:=Zv hg hi t1 t2 t3 t4 hk h6;have hil:=(List.getElem?_eq_some_iff.1 hi).1;have hjl:=(List.getElem?_eq_some_iff.1 t2).1;have r1:=hg.room i α hi;have r2:=hg.room j y t2;have hne:¬E (j:Int):=fun e=>h7 (hEt i α h3 (by rw [t1];exact e));have hp2:Pt E (Eu A i j α y k) by_ u k dep y.to:=by
    refine h9.keep o2 (z:=x) (fun a' α' ha' hn'=>?_) h8;obtain ⟨l,rfl,hl⟩:=Bm ha';obtain ⟨r,q1,q2⟩:=o5 l α' (fun e=>by subst e;rw [hi] at hl;cases hl;exact hn' h5) hl
    exact ⟨r,q1,by rw [getI_nat];exact q2⟩
   have hEt2:∀(a:Int) (α':arcP),getI (Eu A i j α y k) a=some α'→E α'.twin→E a:=fun a' α' ha' he=>by
    obtain ⟨r,hr⟩:=o2.symm.getI ha';exact hEt a' _ hr he
   obtain ⟨A2,e1,e2,e3,e4,e5,e6⟩:=Vi hk hC F y.to (Eu A i j α y k) o1 hEt2 hp2 (by omega);refine ⟨A2,?_,e2,o2.tr e3,Sums.tr o2 o3 e4,fun φ=>?_,fun a' ha'=>?_⟩
   ·rw [H5,show (x != u)=true by simp [h1]];have hbk:H9 A by_ x=some ((i:Int),α,y):=by
     unfold H9;rw [h2];show ((getI A (i:Int)).bind _)=_;rw [h3];show ((getI A α.twin).bind _)=_;rw [h4];rfl
    rw [hbk];show ((ck (α.room-k)).bind _)=_;rw [show ck (α.room-k)=some (α.room-k) by unfold ck;rw [if_pos ⟨by omega,by omega⟩]];show ((B7 A (i:Int) _).bind _)=_;rw [show B7 A (i:Int) { α with room:=α.room-k }=some (A.set i ⟨α.to,α.room-k,α.twin⟩) by unfold B7;rw [if_pos ⟨by omega,by omega⟩,Int.toNat_natCast]];show ((getI (A.set i _) α.twin).bind _)=_;rw [show getI (A.set i ⟨α.to,α.room-k,α.twin⟩) α.twin=some y by rw [t1,getI_nat,List.getElem?_set_ne (fun e=>t4 e.symm)];exact t2];show ((ck (y.room+k)).bind _)=_;rw [show ck (y.room+k)=some (y.room+k) by unfold ck;rw [if_pos ⟨by omega,by omega⟩]];show ((B7 (A.set i _) α.twin _).bind _)=_;rw [show B7 (A.set i ⟨α.to,α.room-k,α.twin⟩) α.twin { y with room:=y.room+k }=some (Eu A i j α y k) by
     have et:α.twin.toNat=j:=by omega
     unfold B7;rw [if_pos ⟨by omega,by rw [List.length_set];omega⟩,et];rfl]
    show ((H9 (Eu A i j α y k) by_ x).bind _)=_;obtain ⟨r3,w1⟩:=o2.getI h3;obtain ⟨r4,w2⟩:=o2.getI h4;have hbk2:H9 (Eu A i j α y k) by_ x=some ((i:Int),⟨α.to,r3,α.twin⟩,⟨y.to,r4,y.twin⟩):=by
     unfold H9;rw [h2];show ((getI (Eu A i j α y k) (i:Int)).bind _)=_;rw [w1];show ((getI (Eu A i j α y k) α.twin).bind _)=_;rw [w2];rfl
    rw [hbk2];exact e1
   ·rw [e5,o4,h5];have a1:k*(φ y.to-φ x)=k*φ y.to-k*φ x:=Int.mul_sub _ _ _;have a2:k*(φ u-φ y.to)=k*φ u-k*φ y.to:=Int.mul_sub _ _ _;have a3:k*(φ u-φ x)=k*φ u-k*φ x:=Int.mul_sub _ _ _;omega
   ·rw [e6 a' ha'];unfold getI
    split
    ·rename_i h0
     refine o6 a'.toNat (fun e=>?_) (fun e=>?_)
     ·have:a'=(i:Int):=by omega
      rw [this] at ha';exact h7 ha'
     ·have:a'=(j:Int):=by omega
      rw [this] at ha';exact hne ha'
    ·rfl
end Go.Proofs.Ytbhjgebjojdohaa
namespace Go.Proofs.Ytbhjgebjojdohaa
open Go Go.RowKit Go.Eng
set_option maxRecDepth 10000
set_option linter.unusedVariables false
set_option linter.unusedSimpArgs false
theorem Xq {A B:List arcP} (h:Top A B) {but a:Int}:exc A but a→exc B but a:=fun ⟨h0,h1⟩=>⟨h0,h1.elim .inl fun ⟨y,hy,e⟩=>by
 obtain ⟨r,hr⟩:=h.getI hy;exact .inr ⟨_,hr,e⟩⟩
theorem Yi {A B:List arcP} (h:Top A B) {but:Int} (hb:Rt A but):Rt B but:=hb.elim .inl fun ⟨y,hy⟩=>by
 obtain ⟨r,hr⟩:=h.getI hy;exact .inr ⟨_,hr⟩
theorem Pd {n:Nat} {fr:List (List Int)} {A B:List arcP} (h:Top A B) (hf:FR n fr A):FR n fr B:=by
 refine ⟨hf.1,fun x row hr a ha=>?_,fun a α β hα hβ=>?_⟩
 ·obtain ⟨α,β,h1,h2,h3⟩:=hf.2.1 x row hr a ha;obtain ⟨r,e1⟩:=h.getI h1;obtain ⟨q,e2⟩:=h.getI h2;exact ⟨_,_,e1,e2,h3⟩
 ·obtain ⟨r,e1⟩:=h.symm.getI hα;obtain ⟨q,e2⟩:=h.symm.getI hβ;exact hf.2.2 a ⟨α.to,r,α.twin⟩ ⟨β.to,q,β.twin⟩ e1 e2
theorem A0m {n:Nat} {C:Int} {A:List arcP} (hg:GA n C A) {but a:Int} {α:arcP} (hα:getI A a=some α) (h:exc A but α.twin):exc A but a:=by
 obtain ⟨i,rfl,hi⟩:=Bm hα;obtain ⟨j,y,t1,t2,t3,t4,t5⟩:=hg.tw i α hi;refine ⟨h.1,?_⟩;rcases h.2 with e|⟨z,hz,e⟩
 ·refine .inr ⟨y,?_,t3.symm⟩;rw [←e,t1,getI_nat];exact t2
 ·left;obtain ⟨b,hb,hzb⟩:=Bm hz;obtain ⟨j2,y2,s1,s2,s3,s4,s5⟩:=hg.tw b z hzb;rw [t1,s1] at e;have:j=j2:=by omega
  subst this;rw [t2] at s2;cases s2
  rw [hb,←s3,t3]
theorem Ko {α:Type} {n:Nat} {x:α} {i:Int} {y:α} (h:getI (List.replicate n x) i=some y):y=x:=by
 obtain ⟨k,rfl,hk⟩:=Bm h;rw [List.getElem?_replicate] at hk
 split at hk
 ·exact (Option.some.inj hk).symm
 ·cases hk
theorem A4o (n:Nat):cT (List.replicate n false)=0:=by
 unfold cT;rw [List.filter_replicate];rfl
structure PS (n:Nat) (C:Int) (A B:List arcP) (u v most but tot r:Int):Prop where
 ga:GA n C B
 top:Top A B
 sums:Sums A B
 ge:tot≤r
 le:tot≤most→r≤most
 wt:∀φ,W φ B=W φ A+(r-tot)*(φ u-φ v)
 keep:∀a:Int,exc A but a→getI B a=getI A a
 cut:r<most→∃S:Int→Bool,S u=true∧S v=false∧∀(a:Int) (α β:arcP),getI B a=some α→getI B α.twin=some β→¬exc A but a→S β.to=true→S α.to=false→α.room=0
theorem Tj {n:Nat} {C:Int} {fr:List (List Int)} {u v most but:Int} (hC:C≤1000000000000000) (hm:most≤1000000000000000) (hn:n≤100000) (hu:0≤u∧u<n) (hv:0≤v∧v<n) {F:Nat} (hF:n<F) :
  ∀(G:Nat) (tot:Int) (A:List arcP),GA n C A→FR n fr A→Rt A but→0≤tot→(most-tot).toNat<G→∃r,Gd F fr u v most but G tot A=some r∧PS n C A r.2 u v most but tot r.1
 | 0,_,_,_,_,_,_,h=>by omega
 | G+1,tot,A,hg,hfr,hb,h0,hG=>by
  have self:∀cut,PS n C A A u v most but tot tot:=fun cut=>⟨hg,Top.rfl A,Sums.rfl A,Int.le_refl _,fun h=>h,fun φ=>by rw [Int.sub_self,Int.zero_mul,Int.add_zero],fun _ _=>rfl,cut⟩
  by_cases hlt:tot<most
  ·have hlen:(fr.length:Int)=(n:Int):=by rw [hfr.1]
   have hby:mkI 8 (fr.length:Int) (-1:Int)=some (List.replicate n (-1)):=by
    unfold mkI;rw [hlen,if_pos ⟨by omega,by rw [Int.toNat_natCast];omega,by omega⟩,Int.toNat_natCast]
   have hme:mkI 1 (fr.length:Int) false=some (List.replicate n false):=by
    unfold mkI;rw [hlen,if_pos ⟨by omega,by rw [Int.toNat_natCast];omega,by omega⟩,Int.toNat_natCast]
   obtain ⟨m0,hm0⟩:=D7 (l:=List.replicate n false) (i:=u) (by rw [List.length_replicate];exact hu);obtain ⟨met1,s1,s2,s3,s4⟩:=G9 (y:=true) hm0;rw [List.length_replicate] at s2;have hf0:=Ko hm0;subst hf0;have hc1:cT met1=1:=by
    obtain ⟨k,hk,hmk⟩:=Bm hm0;have:=(B6 s1).2.2;rw [this,hk,Int.toNat_natCast,W3 hmk,A4o]
   have only:∀y,getI met1 y=some true→y=u:=fun y hy=>by
    by_cases e:y=u
    ·exact e
    ·rw [s4 y e] at hy;have:=Ko hy;cases this
   have hI:BI n A but u met1 (List.replicate n (-1)) (fun _=>0):=⟨s2,List.length_replicate,s3,fun y hy=>by rw [hc1];omega,fun y hy hyu=>absurd (only y hy) hyu⟩;obtain ⟨met,by_,dep,e1,e2,e3⟩:=A04 hg hfr hb hn hv F met1 (List.replicate n (-1)) [u] (fun _=>0) hI (fun y hy=>by simp at hy;subst hy;exact s3) (fun y hy=>.inl (by rw [only y hy];exact List.mem_cons_self ..)) (by rw [hc1];exact Nat.le_refl _) (by rw [hc1,List.length_singleton];omega);have e0:∀mv,getI met v=some mv→Gd F fr u v most but (G+1) tot A=bif !mv then some (tot,A) else (ck (most-tot)).bind fun n0=>(J9 A by_ u F v n0).bind fun k=>(H5 by_ u k F v A).bind fun A2=>(ck (tot+k)).bind fun total2=>Gd F fr u v most but G total2 A2:=fun mv hmv=>by
    rw [Gd,decide_eq_true hlt];show ((mkI 8 (fr.length:Int) (-1:Int)).bind _)=_;rw [hby];show ((mkI 1 (fr.length:Int) false).bind _)=_;rw [hme];show ((B7 (List.replicate n false) u true).bind _)=_;rw [s1];show ((Sp ⟨fr,A⟩ but v F met1 (List.replicate n (-1)) [u]).bind _)=_;rw [e1];show ((getI met v).bind _)=_;rw [hmv];rfl
   rcases e3 with hvt|⟨hvf,hcl⟩
   ·have hdep:dep v<F:=by have:=e2.cnt v hvt;have:=A08 met;rw [e2.lm] at this;omega
    obtain ⟨k,l1,l2,l3,l4⟩:=Us e2 F v (most-tot) hvt hdep (by omega);obtain ⟨A2,f1,f2,f3,f4,f5,f6⟩:=Vi (E:=exc A but) (by omega:0≤k) hC F v A hg (fun a α ha he=>A0m hg ha he) l4 hdep;obtain ⟨r,g1,g2⟩:=Tj hC hm hn hu hv hF G (tot+k) A2 f2 (Pd f3 hfr) (Yi f3 hb) (by omega) (by omega);refine ⟨r,?_,g2.ga,f3.tr g2.top,Sums.tr f3 f4 g2.sums,by have:=g2.ge;omega,fun _=>g2.le (by omega),fun φ=>?_,fun a ha=>?_,fun h=>?_⟩
    ·rw [e0 true hvt];show ((ck (most-tot)).bind _)=_;rw [show ck (most-tot)=some (most-tot) by unfold ck;rw [if_pos ⟨by omega,by omega⟩]];show ((J9 A by_ u F v (most-tot)).bind _)=_;rw [l1];show ((H5 by_ u k F v A).bind _)=_;rw [f1];show ((ck (tot+k)).bind _)=_;rw [show ck (tot+k)=some (tot+k) by unfold ck;rw [if_pos ⟨by omega,by omega⟩]];exact g1
    ·rw [g2.wt,f5,Int.add_assoc,←Int.add_mul]
     congr 2
     omega
    ·rw [g2.keep a (Xq f3 ha),f6 a ha]
    ·obtain ⟨S,c1,c2,c3⟩:=g2.cut h;exact ⟨S,c1,c2,fun a α β h1 h2 h3=>c3 a α β h1 h2 fun h=>h3 (Xq f3.symm h)⟩
   ·refine ⟨(tot,A),(e0 false hvf).trans rfl,self fun _=>⟨fun y=>decide (getI met y=some true),decide_eq_true e2.mu,decide_eq_false (by rw [hvf];simp),fun a α β h1 h2 h3 h4 h5=>?_⟩⟩;obtain ⟨row,r1,r2⟩:=hfr.2.2 a α β h1 h2;have hr:0≤α.room:=by
     obtain ⟨i,rfl,hi⟩:=Bm h1;exact hg.room i α hi
    by_cases hp:0<α.room
    ·exact absurd (hcl β.to (of_decide_eq_true h4) row a α r1 r2 h1 hp h3) (of_decide_eq_false h5)
    ·omega
  ·refine ⟨(tot,A),?_,self fun h=>absurd h hlt⟩;rw [Gd,decide_eq_false hlt];rfl
end Go.Proofs.Ytbhjgebjojdohaa
namespace Go.Proofs.Ytbhjgebjojdohaa
open Go Go.RowKit Go.Eng
set_option maxRecDepth 10000
set_option linter.unusedVariables false
set_option linter.unusedSimpArgs false
structure prP where
 u:Int
 v:Int
 r:Int
 c:Int
 deriving Inhabited
def flatP:Nat→List prP→List arcP
 | _,[]=>[]
 | k,p::Q=>⟨p.v,p.r,2*(k:Int)+1⟩::⟨p.u,p.c,2*(k:Int)⟩::flatP (k+1) Q
theorem C8:∀(Q:List prP) (k:Nat),(flatP k Q).length=2*Q.length
 | [],_=>rfl
 | p::Q,k=>by rw [flatP,List.length_cons,List.length_cons,C8 Q,List.length_cons];omega
theorem Uk:∀(Q R:List prP) (k:Nat),flatP k (Q++R)=flatP k Q++flatP (k+Q.length) R
 | [],R,k=>rfl
 | p::Q,R,k=>by
  rw [List.cons_append,flatP,flatP,Uk Q R (k+1),List.length_cons,List.cons_append,List.cons_append,show k+1+Q.length=k+(Q.length+1) by omega]
theorem Bx:∀{Q:List prP} {k e:Nat} {p:prP},Q[e]? = some p→(flatP k Q)[2*e]? = some ⟨p.v,p.r,2*((k+e:Nat):Int)+1⟩∧(flatP k Q)[2*e+1]? = some ⟨p.u,p.c,2*((k+e:Nat):Int)⟩
 | [],k,e,p,h=>by simp at h
 | q::Q,k,0,p,h=>by simp at h;subst h;exact ⟨rfl,rfl⟩
 | q::Q,k,e+1,p,h=>by
  simp only [List.getElem?_cons_succ] at h;have:=Bx (k:=k+1) h;rw [flatP,show 2*(e+1)=2*e+1+1 by omega,List.getElem?_cons_succ,List.getElem?_cons_succ,List.getElem?_cons_succ,List.getElem?_cons_succ,show k+(e+1)=k+1+e by omega];exact this
theorem Pz {Q:List prP} {i:Nat} {x:arcP} (h:(flatP 0 Q)[i]? = some x):∃(e:Nat) (p:prP),Q[e]? = some p∧((i=2*e∧x=⟨p.v,p.r,2*(e:Int)+1⟩)∨(i=2*e+1∧x=⟨p.u,p.c,2*(e:Int)⟩)):=by
 have hl:=(List.getElem?_eq_some_iff.1 h).1;rw [C8] at hl;have he:i/2<Q.length:=by omega
 have hg:=Bx (Q:=Q) (k:=0) (List.getElem?_eq_getElem he);rw [Nat.zero_add] at hg;refine ⟨i/2,Q[i/2],List.getElem?_eq_getElem he,?_⟩;rcases Nat.mod_two_eq_zero_or_one i with h2|h2
 ·left;have e:i=2*(i/2):=by omega
  refine ⟨e,?_⟩;rw [e,hg.1] at h;exact (Option.some.inj h).symm
 ·right;have e:i=2*(i/2)+1:=by omega
  refine ⟨e,?_⟩;rw [e,hg.2] at h;exact (Option.some.inj h).symm
def WQ (φ:Int→Int) (Q:List prP):Int:=(Q.map fun p=>p.r*φ p.v+p.c*φ p.u).sum
theorem Ah (φ:Int→Int) (p:prP) (Q:List prP):WQ φ (p::Q)=p.r*φ p.v+p.c*φ p.u+WQ φ Q:=by unfold WQ;rw [List.map_cons,List.sum_cons]
theorem Hh (φ:Int→Int) (Q R:List prP):WQ φ (Q++R)=WQ φ Q+WQ φ R:=by unfold WQ;rw [List.map_append,List.sum_append]
theorem Vt (φ:Int→Int):∀(Q:List prP) (k:Nat),W φ (flatP k Q)=WQ φ Q
 | [],_=>rfl
 | p::Q,k=>by rw [flatP,Mh,Mh,Vt φ Q,Ah];dsimp only;omega
theorem Mg (φ:Int→Int):∀{Q:List prP} {e:Nat} {p q:prP},Q[e]? = some p→WQ φ (Q.set e q)=WQ φ Q-(p.r*φ p.v+p.c*φ p.u)+(q.r*φ q.v+q.c*φ q.u)
 | [],e,p,q,h=>by simp at h
 | a::Q,0,p,q,h=>by simp at h;subst h;rw [List.set_cons_zero,Ah,Ah];omega
 | a::Q,e+1,p,q,h=>by
  simp only [List.getElem?_cons_succ] at h;rw [List.set_cons_succ,Ah,Ah,Mg φ h];omega
structure Sm (Q R:List prP):Prop where
 len:R.length=Q.length
 at_:∀(e:Nat) (p q:prP),Q[e]? = some p→R[e]? = some q→q.u=p.u∧q.v=p.v∧q.r+q.c=p.r+p.c
def NN (Q:List prP):Prop:=∀p∈Q,0≤p.r∧0≤p.c
theorem Sm.rfl (Q:List prP):Sm Q Q:=⟨by rfl,fun e p q h1 h2=>by rw [h1] at h2;cases h2;exact ⟨by rfl,by rfl,by rfl⟩⟩
theorem Sm.get {Q R:List prP} (h:Sm Q R) {e:Nat} {p:prP} (hp:Q[e]? = some p):∃q,R[e]? = some q∧q.u=p.u∧q.v=p.v∧q.r+q.c=p.r+p.c:=by
 have hl:=(List.getElem?_eq_some_iff.1 hp).1;have:e<R.length:=by rw [h.len];exact hl
 exact ⟨R[e],List.getElem?_eq_getElem this,h.at_ e p _ hp (List.getElem?_eq_getElem this)⟩
theorem Sm.symm {Q R:List prP} (h:Sm Q R):Sm R Q:=⟨h.len.symm,fun e p q h1 h2=>by
 obtain ⟨a,b,c⟩:=h.at_ e q p h2 h1;exact ⟨a.symm,b.symm,c.symm⟩⟩
theorem Sm.tr {Q R T:List prP} (h:Sm Q R) (k:Sm R T):Sm Q T:=⟨k.len.trans h.len,fun e p q h1 h2=>by
 obtain ⟨m,h3,a1,a2,a3⟩:=h.get h1;obtain ⟨b1,b2,b3⟩:=k.at_ e m q h3 h2;exact ⟨b1.trans a1,b2.trans a2,b3.trans a3⟩⟩
theorem Sm.tail {Q R:List prP} {p q:prP} (h:Sm (p::Q) (q::R)):Sm Q R∧q.u=p.u∧q.v=p.v∧q.r+q.c=p.r+p.c :=
 ⟨⟨by have:=h.len;simpa using this,fun e a b h1 h2=>h.at_ (e+1) a b (by simpa using h1) (by simpa using h2)⟩,h.at_ 0 p q (by rfl) (by rfl)⟩
theorem Lp {n:Nat} {C:Int} {Q:List prP} (h:∀p∈Q,(0≤p.u∧p.u<n)∧(0≤p.v∧p.v<n)∧0≤p.r∧0≤p.c∧p.r+p.c≤C):GA n C (flatP 0 Q):=by
 refine ⟨fun i x hx=>?_,fun i x hx=>?_,fun i x hx=>?_⟩
 ·obtain ⟨e,p,hp,⟨rfl,rfl⟩|⟨rfl,rfl⟩⟩:=Pz hx
  ·exact (h p (List.mem_of_getElem? hp)).2.1
  ·exact (h p (List.mem_of_getElem? hp)).1
 ·obtain ⟨e,p,hp,⟨rfl,rfl⟩|⟨rfl,rfl⟩⟩:=Pz hx
  ·have hg:=(Bx (k:=0) hp).2;refine ⟨2*e+1,_,by dsimp only;omega,hg,by dsimp only;omega,by omega,?_⟩;have:=h p (List.mem_of_getElem? hp);dsimp only;omega
  ·have hg:=(Bx (k:=0) hp).1;refine ⟨2*e,_,by dsimp only;omega,hg,by dsimp only;omega,by omega,?_⟩;have:=h p (List.mem_of_getElem? hp);dsimp only;omega
 ·obtain ⟨e,p,hp,⟨rfl,rfl⟩|⟨rfl,rfl⟩⟩:=Pz hx
  ·exact (h p (List.mem_of_getElem? hp)).2.2.1
  ·exact (h p (List.mem_of_getElem? hp)).2.2.2.1
theorem A5y {n:Nat} {C:Int} {Q:List prP} {B:List arcP} (ht:Top (flatP 0 Q) B) (hs:Sums (flatP 0 Q) B) (hg:GA n C B):∃R,B=flatP 0 R∧Sm Q R∧NN R:=by
 have hat:∀(e:Nat) (p:prP),Q[e]? = some p→∃r c:Int,B[2*e]? = some ⟨p.v,r,2*(e:Int)+1⟩∧B[2*e+1]? = some ⟨p.u,c,2*(e:Int)⟩∧r+c=p.r+p.c:=fun e p hp=>by
  have hg:=Bx (k:=0) hp;rw [Nat.zero_add] at hg;obtain ⟨r,hr⟩:=ht.2 _ _ hg.1;obtain ⟨c,hc⟩:=ht.2 _ _ hg.2;exact ⟨r,c,hr,hc,hs _ _ _ _ _ _ hg.1 hg.2 (by dsimp only;omega) hr hc⟩
 let R:=Q.mapIdx fun e p=>(⟨p.u,p.v,(B.getD (2*e) default).room,(B.getD (2*e+1) default).room⟩:prP)
 have hR:∀(e:Nat) (p:prP) (r c:Int),Q[e]? = some p→B[2*e]? = some ⟨p.v,r,2*(e:Int)+1⟩→B[2*e+1]? = some ⟨p.u,c,2*(e:Int)⟩→R[e]? = some ⟨p.u,p.v,r,c⟩:=fun e p r c hp h1 h2=>by
  show (Q.mapIdx _)[e]? = _;rw [List.getElem?_mapIdx,hp];show some _=_;rw [List.getD_eq_getElem?_getD,List.getD_eq_getElem?_getD,h1,h2];rfl
 have hlen:R.length=Q.length:=List.length_mapIdx;have hB:B=flatP 0 R:=by
  apply List.ext_getElem?;intro i
  by_cases hi:i<2*Q.length
  ·have he:i/2<Q.length:=by omega
   have hp:Q[i/2]? = some Q[i/2]:=List.getElem?_eq_getElem he;obtain ⟨r,c,h1,h2,h3⟩:=hat _ _ hp;have hq:=Bx (k:=0) (hR _ _ r c hp h1 h2);rw [Nat.zero_add] at hq;rcases Nat.mod_two_eq_zero_or_one i with h2'|h2'
   ·have e:i=2*(i/2):=by omega
    rw [e,h1,hq.1]
   ·have e:i=2*(i/2)+1:=by omega
    rw [e,h2,hq.2]
  ·rw [List.getElem?_eq_none (by rw [ht.1,C8];omega),List.getElem?_eq_none (by rw [C8,hlen];omega)]
 refine ⟨R,hB,⟨hlen,fun e p q hp hq=>?_⟩,fun q hq=>?_⟩
 ·obtain ⟨r,c,h1,h2,h3⟩:=hat e p hp;rw [hR e p r c hp h1 h2] at hq
  cases hq
  exact ⟨rfl,rfl,h3⟩
 ·obtain ⟨e,he⟩:=List.mem_iff_getElem?.1 hq;have hg2:=Bx (k:=0) he;rw [←hB] at hg2;exact ⟨hg.room _ _ hg2.1,hg.room _ _ hg2.2⟩
def ind (S:Int→Bool) (x:Int):Int:=if S x=true then 1 else 0
theorem Sw {S:Int→Bool}:∀{Q R:List prP},Sm Q R→NN R→(∀p∈Q,(S p.u=true→S p.v=false→p.r=0)∧(S p.v=true→S p.u=false→p.c=0))→WQ (ind S) R≤WQ (ind S) Q
 | [],[],_,_,_=>Int.le_refl _
 | [],_::_,h,_,_=>by have:=h.len;simp at this
 | _::_,[],h,_,_=>by have:=h.len;simp at this
 | p::Q,q::R,h,hn,hc=>by
  obtain ⟨ht,e1,e2,e3⟩:=h.tail;have ih:=Sw ht (fun x hx=>hn x (List.mem_cons_of_mem _ hx)) (fun x hx=>hc x (List.mem_cons_of_mem _ hx));have hq:=hn q (List.mem_cons_self ..);have hp:=hc p (List.mem_cons_self ..);rw [Ah,Ah,e1,e2];unfold ind at ih ⊢
  cases hu:S p.u<;>cases hv:S p.v<;>simp only [hu,hv,if_true,Bool.false_eq_true,if_false,Int.mul_one,Int.mul_zero] at hp ⊢<;>simp at hp<;>omega
end Go.Proofs.Ytbhjgebjojdohaa
namespace Go.Proofs.Ytbhjgebjojdohaa
open Go Go.RowKit Go.Eng
set_option maxRecDepth 10000
set_option linter.unusedVariables false
set_option linter.unusedSimpArgs false
theorem A16 {α:Type} {l:List α} {i:Int} {x:α} (h:getI l i=some x):x∈l:=by
 obtain ⟨k,_,hk⟩:=Bm h;exact List.mem_of_getElem? hk
theorem A17 {α:Type} {l l2:List α} {i:Int} {x y:α} (h:B7 l i x=some l2) (hy:y∈l2):y=x∨y∈l:=by
 obtain ⟨_,_,rfl⟩:=B6 h;exact (List.mem_or_eq_of_mem_set hy).symm
structure NQ (n:Nat) (Q:List prP) (t:netP):Prop where
 arcs:t.arcs=flatP 0 Q
 fr:FR n t.fr t.arcs
 rows:∀row∈t.fr,row.length≤t.arcs.length
theorem Yu (Q:List prP) (u v room:Int):flatP 0 (Q++[⟨u,v,room,0⟩])=flatP 0 Q++[⟨v,room,((flatP 0 Q).length:Int)+1⟩,⟨u,0,((flatP 0 Q).length:Int)⟩]:=by
 rw [Uk,C8,Nat.zero_add,flatP,flatP]
 congr 3<;>(congr 1;omega)
theorem Q4 {α:Type} {l k:List α} {i:Int} {x:α} (h:getI l i=some x):getI (l++k) i=some x:=by
 obtain ⟨j,rfl,hj⟩:=Bm h;rw [getI_nat,List.getElem?_append_left (List.getElem?_eq_some_iff.1 hj).1];exact hj
theorem T3 {α:Type} {l k:List α} {i:Int} {x:α} (h:getI (l++k) i=some x):getI l i=some x∨((l.length:Int)≤i∧k[i.toNat-l.length]? = some x):=by
 obtain ⟨j,rfl,hj⟩:=Bm h
 by_cases e:j<l.length
 ·left;rw [List.getElem?_append_left e] at hj;rw [getI_nat];exact hj
 ·right;rw [List.getElem?_append_right (by omega)] at hj;exact ⟨by omega,by rw [Int.toNat_natCast];exact hj⟩
theorem Vv {n:Nat} {C:Int} {Q:List prP} {t:netP} (h:NQ n Q t) (hg:GA n C t.arcs) {u v room:Int} (hu:0≤u∧u<n) (hv:0≤v∧v<n) (huv:u≠v) (hl:Q.length≤1000000) :
  ∃t2,Ks t u v room=some (t2,2*(Q.length:Int))∧NQ n (Q++[⟨u,v,room,0⟩]) t2:=by
 obtain ⟨ru,hru⟩:=D7 (l:=t.fr) (i:=u) (by rw [h.fr.1];exact hu);obtain ⟨rv,hrv⟩:=D7 (l:=t.fr) (i:=v) (by rw [h.fr.1];exact hv);have hL:t.arcs.length=2*Q.length:=by rw [h.arcs,C8]
 have b1:=h.rows ru (A16 hru);have b2:=h.rows rv (A16 hrv);have ap1:apd 8 ru [(t.arcs.length:Int)]=some (ru++[(t.arcs.length:Int)]):=by
  unfold apd;rw [if_pos ⟨by rw [List.length_singleton];omega,by rw [List.length_singleton];omega⟩]
 have ap2:apd 8 rv [(t.arcs.length:Int)+1]=some (rv++[(t.arcs.length:Int)+1]):=by
  unfold apd;rw [if_pos ⟨by rw [List.length_singleton];omega,by rw [List.length_singleton];omega⟩]
 obtain ⟨f1,s1,s2,s3,s4⟩:=G9 (y:=ru++[(t.arcs.length:Int)]) hru;have hrv1:getI f1 v=some rv:=by rw [s4 v (fun e=>huv e.symm)];exact hrv
 obtain ⟨f2,r1,r2,r3,r4⟩:=G9 (y:=rv++[(t.arcs.length:Int)+1]) hrv1;have e2:flatP 0 (Q++[⟨u,v,room,0⟩])=t.arcs++[⟨v,room,(t.arcs.length:Int)+1⟩,⟨u,0,(t.arcs.length:Int)⟩]:=by rw [Yu,h.arcs]
 have gL:getI (t.arcs++[⟨v,room,(t.arcs.length:Int)+1⟩,⟨u,0,(t.arcs.length:Int)⟩]) (t.arcs.length:Int)=some ⟨v,room,(t.arcs.length:Int)+1⟩:=by
  rw [getI_nat,List.getElem?_append_right (Nat.le_refl _),Nat.sub_self];rfl
 have gL1:getI (t.arcs++[⟨v,room,(t.arcs.length:Int)+1⟩,⟨u,0,(t.arcs.length:Int)⟩]) ((t.arcs.length:Int)+1)=some ⟨u,0,(t.arcs.length:Int)⟩:=by
  rw [show (t.arcs.length:Int)+1=((t.arcs.length+1:Nat):Int) by omega,getI_nat,List.getElem?_append_right (by omega),Nat.add_sub_cancel_left];rfl
 refine ⟨⟨f2,t.arcs++[⟨v,room,(t.arcs.length:Int)+1⟩,⟨u,0,(t.arcs.length:Int)⟩]⟩,?_,e2.symm,⟨r2.trans (s2.trans h.fr.1),fun x row hx a ha=>?_,fun a α β hα hβ=>?_⟩,fun row hrow=>?_⟩
 ·unfold Ks;rw [if_neg huv,hru];show ((apd 8 ru [(t.arcs.length:Int)]).bind _)=_;rw [ap1];show ((getI t.fr v).bind _)=_;rw [hrv];show ((apd 8 rv [(t.arcs.length:Int)+1]).bind _)=_;rw [ap2];show ((B7 t.fr u _).bind _)=_;rw [s1];show ((B7 f1 v _).bind _)=_;rw [r1];show some (_,_)=_;rw [hL];simp
 ·have old:∀row,getI t.fr x=some row→a∈row→∃(α β:arcP),getI (t.arcs++[⟨v,room,(t.arcs.length:Int)+1⟩,⟨u,0,(t.arcs.length:Int)⟩]) a=some α∧getI (t.arcs++[⟨v,room,(t.arcs.length:Int)+1⟩,⟨u,0,(t.arcs.length:Int)⟩]) α.twin=some β∧β.to=x:=fun row hr ha=>by
   obtain ⟨α,β,h1,h2,h3⟩:=h.fr.2.1 x row hr a ha;exact ⟨α,β,Q4 h1,Q4 h2,h3⟩
  by_cases hxv:x=v
  ·subst hxv;rw [r3] at hx;cases hx
   rcases List.mem_append.1 ha with ha|ha
   ·exact old rv hrv ha
   ·simp at ha;subst ha;exact ⟨_,_,gL1,gL,rfl⟩
  ·rw [r4 x hxv] at hx
   by_cases hxu:x=u
   ·subst hxu;rw [s3] at hx;cases hx
    rcases List.mem_append.1 ha with ha|ha
    ·exact old ru hru ha
    ·simp at ha;subst ha;exact ⟨_,_,gL,gL1,rfl⟩
   ·rw [s4 x hxu] at hx;exact old row hx ha
 ·have grow:∀x row,getI t.fr x=some row→a∈row→∃row2,getI f2 x=some row2∧a∈row2:=fun x row hr ha=>by
   by_cases hxv:x=v
   ·subst hxv;rw [hrv] at hr;cases hr
    exact ⟨_,r3,List.mem_append_left _ ha⟩
   ·by_cases hxu:x=u
    ·subst hxu;rw [hru] at hr;cases hr
     exact ⟨_,by rw [r4 x hxv];exact s3,List.mem_append_left _ ha⟩
    ·exact ⟨row,by rw [r4 x hxv,s4 x hxu];exact hr,ha⟩
  rcases T3 hα with hα|⟨hge,hα⟩
  ·have hβ2:getI t.arcs α.twin=some β:=by
    obtain ⟨i,rfl,hi⟩:=Bm hα;obtain ⟨j,y,t1,t2,t3,t4,t5⟩:=hg.tw i α hi;have:getI t.arcs α.twin=some y:=by rw [t1,getI_nat];exact t2
    rw [Q4 this] at hβ;cases hβ
    exact this
   obtain ⟨row,q1,q2⟩:=h.fr.2.2 a α β hα hβ2;exact grow _ row q1 q2
  ·generalize hk:a.toNat-t.arcs.length=k at hα;rcases k with _|_|k
   ·simp at hα;subst hα;rw [gL1] at hβ;cases hβ
    have:a=(t.arcs.length:Int):=by omega
    refine ⟨_,by rw [r4 u huv];exact s3,?_⟩;rw [this];simp
   ·simp at hα;subst hα;rw [gL] at hβ;cases hβ
    have:a=(t.arcs.length:Int)+1:=by omega
    refine ⟨_,r3,?_⟩;rw [this];simp
   ·simp at hα
 ·show row.length≤(t.arcs++[_,_]).length;rw [List.length_append];simp only [List.length_cons,List.length_nil];rcases A17 r1 hrow with rfl|hrow
  ·rw [List.length_append,List.length_singleton];omega
  ·rcases A17 s1 hrow with rfl|hrow
   ·rw [List.length_append,List.length_singleton];omega
   ·have:=h.rows row hrow;omega
end Go.Proofs.Ytbhjgebjojdohaa
namespace Go.Proofs.Ytbhjgebjojdohaa
open Go Go.RowKit Go.Eng
set_option maxRecDepth 10000
set_option linter.unusedVariables false
set_option linter.unusedSimpArgs false
structure cnP where
 u:Int
 v:Int
 lo:Int
 hi:Int
def prs (e0 e1:Int) (c:cnP):List prP:=⟨c.u,c.v,c.hi-c.lo,0⟩::(if 0<c.lo then [⟨e0,c.v,c.lo,0⟩,⟨c.u,e1,c.lo,0⟩] else [])
def netQ (e0 e1:Int) (M:List cnP):List prP:=M.flatMap (prs e0 e1)
theorem S6 (e0 e1:Int) (M:List cnP) (c:cnP):netQ e0 e1 (M++[c])=netQ e0 e1 M++prs e0 e1 c:=by unfold netQ;rw [List.flatMap_append,List.flatMap_cons,List.flatMap_nil,List.append_nil]
theorem A3d (e0 e1:Int) (c:cnP):(prs e0 e1 c).length≤3:=by unfold prs;split<;>simp
theorem Ux (e0 e1:Int):∀M:List cnP,(netQ e0 e1 M).length≤3*M.length
 | []=>Nat.le_refl _
 | c::M=>by
  have:=Ux e0 e1 M;have:=A3d e0 e1 c;unfold netQ at *;rw [List.flatMap_cons,List.length_append,List.length_cons];omega
def sumLo (M:List cnP):Int:=(M.map (·.lo)).sum
theorem R5 (M:List cnP) (c:cnP):sumLo (M++[c])=sumLo M+c.lo:=by unfold sumLo;rw [List.map_append,List.sum_append];simp
structure okC (n:Nat) (e0 e1:Int) (c:cnP):Prop where
 u:0≤c.u∧c.u<n
 v:0≤c.v∧c.v<n
 uv:c.u≠c.v
 u0:c.u≠e0
 u1:c.u≠e1
 v0:c.v≠e0
 v1:c.v≠e1
 lo:0≤c.lo
 le:c.lo≤c.hi
 hi:c.hi≤1073741824
structure TN (n:Nat) (e0 e1:Int) (M:List cnP) (t:tripP):Prop where
 net:NQ n (netQ e0 e1 M) t.net
 need:t.need=sumLo M
 ok:∀c∈M,okC n e0 e1 c
 e0:t.e0=e0
 e1:t.e1=e1
theorem Tb {n:Nat} {e0 e1:Int} (h0:0≤e0∧e0<n) (h1:0≤e1∧e1<n) {M:List cnP} (h:∀c∈M,okC n e0 e1 c):∀p∈netQ e0 e1 M,(0≤p.u∧p.u<n)∧(0≤p.v∧p.v<n)∧0≤p.r∧0≤p.c∧p.r+p.c≤1073741824:=by
 intro p hp;obtain ⟨c,hc,hp⟩:=List.mem_flatMap.1 hp;have k:=h c hc;have:=k.lo;have:=k.le;have:=k.hi;unfold prs at hp;rcases List.mem_cons.1 hp with rfl|hp
 ·exact ⟨k.u,k.v,by dsimp only;omega,by dsimp only;omega,by dsimp only;omega⟩
 ·split at hp
  ·simp at hp;rcases hp with rfl|rfl
   ·exact ⟨h0,k.v,by dsimp only;omega,by dsimp only;omega,by dsimp only;omega⟩
   ·exact ⟨k.u,h1,by dsimp only;omega,by dsimp only;omega,by dsimp only;omega⟩
  ·cases hp
theorem T9 {n:Nat} {e0 e1:Int} (h0:0≤e0∧e0<n) (h1:0≤e1∧e1<n) {M:List cnP} {t:tripP} (h:TN n e0 e1 M t) (hM:M.length≤1000) (hs:sumLo M≤1073741824*(M.length:Int)) {u v:Int} {s:api_Span} (hc:okC n e0 e1 ⟨u,v,s.Lo,s.Hi⟩) :
  ∃t2,Jm t u v s=some (t2,2*((netQ e0 e1 M).length:Int))∧TN n e0 e1 (M++[⟨u,v,s.Lo,s.Hi⟩]) t2∧t2.gates=t.gates∧t2.lows=t.lows:=by
 have hq:=Ux e0 e1 M;have k1:=hc.lo;have k2:=hc.le;have k3:=hc.hi;dsimp only at k1 k2 k3;have hsm:0≤sumLo M:=by
  have:∀L:List cnP,(∀c∈L,0≤c.lo)→0≤sumLo L:=by
   intro L
   induction L with
   | nil=>intro _;exact Int.le_refl _
   | cons c L ih=>intro hL;have:=hL c (List.mem_cons_self ..);have:=ih fun x hx=>hL x (List.mem_cons_of_mem _ hx);unfold sumLo at *;rw [List.map_cons,List.sum_cons];omega
  exact this M fun c hc=>(h.ok c hc).lo
 have ga0:GA n 1073741824 t.net.arcs:=by rw [h.net.arcs];exact Lp (Tb h0 h1 h.ok)
 have ck1:ck (s.Hi-s.Lo)=some (s.Hi-s.Lo):=by unfold ck;rw [if_pos ⟨by omega,by omega⟩]
 obtain ⟨t1,a1,n1⟩:=Vv (room:=s.Hi-s.Lo) h.net ga0 hc.u hc.v hc.uv (by omega);have ok':∀c∈M++[⟨u,v,s.Lo,s.Hi⟩],okC n e0 e1 c:=fun c hc'=>by
  rcases List.mem_append.1 hc' with h'|h'
  ·exact h.ok c h'
  ·simp at h';subst h';exact hc
 have bnd:∀(Q:List prP),(∀p∈Q,(0≤p.u∧p.u<n)∧(0≤p.v∧p.v<n)∧0≤p.r∧0≤p.c∧p.r+p.c≤1073741824)→∀p:prP,((0≤p.u∧p.u<n)∧(0≤p.v∧p.v<n)∧0≤p.r∧0≤p.c∧p.r+p.c≤1073741824)→∀x∈Q++[p],(0≤x.u∧x.u<n)∧(0≤x.v∧x.v<n)∧0≤x.r∧0≤x.c∧x.r+x.c≤1073741824:=fun Q hQ p hp x hx=>by
  rcases List.mem_append.1 hx with h'|h'
  ·exact hQ x h'
  ·simp at h';subst h';exact hp
 have B0:=Tb h0 h1 h.ok;have B1:=bnd _ B0 ⟨u,v,s.Hi-s.Lo,0⟩ ⟨hc.u,hc.v,by dsimp only;omega,by dsimp only;omega,by dsimp only;omega⟩;have head:Jm t u v s=bif decide (s.Lo>0) then (Ks t1 t.e0 v s.Lo).bind fun r2=>(Ks r2.1 u t.e1 s.Lo).bind fun r3=>(ck (t.need+s.Lo)).bind fun z=>some ({ t with net:=r3.1,need:=z },2*((netQ e0 e1 M).length:Int)) else some ({ t with net:=t1 },2*((netQ e0 e1 M).length:Int)):=by
  unfold Jm;rw [ck1];show ((Ks t.net u v (s.Hi-s.Lo)).bind _)=_;rw [a1];rfl
 by_cases hp:s.Lo>0
 ·obtain ⟨t2,a2,n2⟩:=Vv (room:=s.Lo) (u:=e0) (v:=v) n1 (by rw [n1.arcs];exact Lp B1) h0 hc.v (fun e=>hc.v0 e.symm) (by rw [List.length_append,List.length_singleton];omega);have B2:=bnd _ B1 ⟨e0,v,s.Lo,0⟩ ⟨h0,hc.v,by dsimp only;omega,by dsimp only;omega,by dsimp only;omega⟩;obtain ⟨t3,a3,n3⟩:=Vv (room:=s.Lo) (u:=u) (v:=e1) n2 (by rw [n2.arcs];exact Lp B2) hc.u h1 hc.u1 (by rw [List.length_append,List.length_append,List.length_singleton,List.length_singleton];omega);refine ⟨{ t with net:=t3,need:=t.need+s.Lo },?_,⟨?_,?_,ok',h.e0,h.e1⟩,rfl,rfl⟩
  ·rw [head,decide_eq_true hp,h.e0,h.e1];show ((Ks t1 e0 v s.Lo).bind _)=_;rw [a2];show ((Ks t2 u e1 s.Lo).bind _)=_;rw [a3];show ((ck (t.need+s.Lo)).bind _)=_;rw [show ck (t.need+s.Lo)=some (t.need+s.Lo) by unfold ck;rw [h.need,if_pos ⟨by omega,by omega⟩]];rfl
  ·rw [S6];unfold prs;rw [if_pos (show (0:Int)<s.Lo from hp)];rw [List.append_assoc,List.append_assoc] at n3;exact n3
  ·rw [R5,←h.need]
 ·refine ⟨{ t with net:=t1 },?_,⟨?_,?_,ok',h.e0,h.e1⟩,rfl,rfl⟩
  ·rw [head,decide_eq_false hp];rfl
  ·rw [S6];unfold prs;rw [if_neg (show ¬(0:Int)<s.Lo from hp)];exact n1
  ·rw [R5,←h.need];show t.need=t.need+s.Lo;omega
end Go.Proofs.Ytbhjgebjojdohaa
namespace Go.Proofs.Ytbhjgebjojdohaa
open Go Go.RowKit Go.Eng
set_option maxRecDepth 10000
set_option linter.unusedVariables false
set_option linter.unusedSimpArgs false
theorem A5 {α β:Type} {o:Option α} {f:α→Option β} {x:α} (h:o=some x):o.bind f=f x:=by rw [h];rfl
theorem Fa (M:List cnP) (c:cnP):sumLo (c::M)=c.lo+sumLo M:=by unfold sumLo;rw [List.map_cons,List.sum_cons]
theorem Gf {n:Nat} {e0 e1:Int}:∀{M:List cnP},(∀c∈M,okC n e0 e1 c)→0≤sumLo M∧sumLo M≤1073741824*(M.length:Int)
 | [],_=>⟨Int.le_refl _,Int.le_refl _⟩
 | c::M,h=>by
  have:=Gf fun x hx=>h x (List.mem_cons_of_mem _ hx);have k:=h c (List.mem_cons_self ..);have:=k.lo;have:=k.le;have:=k.hi;rw [Fa,List.length_cons];omega
def gS (gate:Int) (power:api_Span) (r:Nat):api_Span:=bif (r:Int)==gate then power else ⟨0,1073741824⟩
def gC (n m:Nat) (gate:Int) (power:api_Span) (r:Nat):cnP:=⟨((r%n:Nat):Int),((n+r%m:Nat):Int),(gS gate power r).Lo,(gS gate power r).Hi⟩
def gM (n m:Nat) (gate:Int) (power:api_Span) (k:Nat):List cnP:=(List.range k).map (gC n m gate power)
def gN (n m:Nat) (e0 e1 gate:Int) (power:api_Span) (k:Nat):List Int:=(List.range k).map fun r=>2*((netQ e0 e1 (gM n m gate power r)).length:Int)
def gL (gate:Int) (power:api_Span) (k:Nat):List Int:=(List.range k).map fun r=>(gS gate power r).Lo
theorem L9 {α:Type} (f:Nat→α) (k:Nat):(List.range (k+1)).map f=(List.range k).map f++[f k]:=by rw [List.range_succ,List.map_append];rfl
def okS (s:api_Span):Prop:=0≤s.Lo∧s.Lo≤s.Hi∧s.Hi≤1073741824
theorem Xu {gate:Int} {power:api_Span} (h:okS power) (r:Nat):okS (gS gate power r):=by
 unfold gS
 cases ((r:Int)==gate)
 ·exact (⟨by decide,by decide,by decide⟩:okS ⟨0,1073741824⟩)
 ·exact h
theorem A69 {n m:Nat} (hn:0<n) (hm:0<m) {gate:Int} {power:api_Span} (h:okS power) (r:Nat):okC (n+m+3) ((n:Int)+m+1) ((n:Int)+m+2) (gC n m gate power r):=by
 have h1:=Nat.mod_lt r hn;have h2:=Nat.mod_lt r hm;obtain ⟨a,b,c⟩:=Xu (gate:=gate) h r;exact ⟨by unfold gC;dsimp only;omega,by unfold gC;dsimp only;omega,by unfold gC;dsimp only;omega,by unfold gC;dsimp only;omega,by unfold gC;dsimp only;omega,by unfold gC;dsimp only;omega,by unfold gC;dsimp only;omega,a,b,c⟩
theorem Uo {n m:Nat} (hn:0<n∧n≤100) (hm:0<m∧m≤100) {gate:Int} {power:api_Span} (hp:okS power) {most:Nat} (hmo:most≤100):∀(F k:Nat) (t:tripP),TN (n+m+3) ((n:Int)+m+1) ((n:Int)+m+2) (gM n m gate power k) t→t.gates=gN n m ((n:Int)+m+1) ((n:Int)+m+2) gate power k→t.lows=gL gate power k→k≤most→most-k<F →
  ∃t2,Kx (n:Int) (m:Int) (most:Int) gate power F (k:Int) t=some t2∧TN (n+m+3) ((n:Int)+m+1) ((n:Int)+m+2) (gM n m gate power most) t2∧t2.gates=gN n m ((n:Int)+m+1) ((n:Int)+m+2) gate power most∧t2.lows=gL gate power most
 | 0,_,_,_,_,_,_,hF=>by omega
 | F+1,k,t,hT,hg,hl,hk,hF=>by
  by_cases hlt:k<most
  ·have hc:=A69 hn.1 hm.1 (gate:=gate) hp k;have hlen:(gM n m gate power k).length=k:=by unfold gM;rw [List.length_map,List.length_range]
   obtain ⟨t2,a1,a2,a3,a4⟩:=T9 (by omega) (by omega) hT (by rw [hlen];omega) (Gf hT.ok).2 (u:=((k%n:Nat):Int)) (v:=((n+k%m:Nat):Int)) (s:=gS gate power k) hc;have eM:gM n m gate power k++[⟨((k%n:Nat):Int),((n+k%m:Nat):Int),(gS gate power k).Lo,(gS gate power k).Hi⟩]=gM n m gate power (k+1):=by unfold gM;rw [L9];rfl
   rw [eM] at a2;have hgl:t2.gates.length=k:=by rw [a3,hg];unfold gN;rw [List.length_map,List.length_range]
   have hll:t2.lows.length=k:=by rw [a4,hl];unfold gL;rw [List.length_map,List.length_range]
   obtain ⟨t4,b1,b2,b3,b4⟩:=Uo hn hm hp hmo F (k+1) { t2 with gates:=t2.gates++[2*((netQ ((n:Int)+m+1) ((n:Int)+m+2) (gM n m gate power k)).length:Int)],lows:=t2.lows++[(gS gate power k).Lo] } ⟨a2.net,a2.need,a2.ok,a2.e0,a2.e1⟩ (by dsimp only;rw [a3,hg];unfold gN;rw [L9]) (by dsimp only;rw [a4,hl];unfold gL;rw [L9]) (by omega) (by omega);refine ⟨t4,?_,b2,b3,b4⟩;have hkm:=Nat.mod_lt k hm.1;rw [Kx,decide_eq_true (by omega:(k:Int)<(most:Int)),cond_true];rw [A5 (show Gn (k:Int) (n:Int)=some ((k%n:Nat):Int) by unfold Gn;rw [if_neg (by omega)];rfl)];rw [A5 (show Gn (k:Int) (m:Int)=some ((k%m:Nat):Int) by unfold Gn;rw [if_neg (by omega)];rfl)];rw [A5 (show ck ((n:Int)+((k%m:Nat):Int))=some ((n+k%m:Nat):Int) by unfold ck;rw [if_pos ⟨by omega,by omega⟩,Int.natCast_add])];have eS:(bif (k:Int)==gate then power else (⟨0,1073741824⟩:api_Span))=gS gate power k:=by rw [gS]
   rw [eS,A5 a1];rw [A5 (show apd 8 t2.gates [2*((netQ ((n:Int)+m+1) ((n:Int)+m+2) (gM n m gate power k)).length:Int)]=some (t2.gates++[2*((netQ ((n:Int)+m+1) ((n:Int)+m+2) (gM n m gate power k)).length:Int)]) by unfold apd;rw [if_pos ⟨by rw [hgl,List.length_singleton];omega,by rw [hgl,List.length_singleton];omega⟩])];rw [A5 (show apd 8 t2.lows [(gS gate power k).Lo]=some (t2.lows++[(gS gate power k).Lo]) by unfold apd;rw [if_pos ⟨by rw [hll,List.length_singleton];omega,by rw [hll,List.length_singleton];omega⟩])];rw [A5 (show ck ((k:Int)+1)=some ((k+1:Nat):Int) by unfold ck;rw [if_pos ⟨by omega,by omega⟩,Int.natCast_add];rfl)];exact b1
  ·have hk2:k=most:=by omega
   subst hk2;refine ⟨t,?_,hT,hg,hl⟩;rw [Kx,decide_eq_false (by omega:¬(k:Int)<(k:Int))];rfl
def aM (c:Int):Nat→List api_Span→List cnP
 | _,[]=>[]
 | i,s::l=>⟨c,(i:Int),s.Lo,s.Hi⟩::aM c (i+1) l
def bM (n:Nat) (c:Int):Nat→List api_Span→List cnP
 | _,[]=>[]
 | i,s::l=>⟨((n+i:Nat):Int),c,s.Lo,s.Hi⟩::bM n c (i+1) l
theorem A3o {n m:Nat} (hn:n≤100) (hm:m≤100):∀(l:List api_Span) (i:Nat) (M:List cnP) (t:tripP),(∀s∈l,okS s)→i+l.length≤n→M.length+l.length≤1000→TN (n+m+3) ((n:Int)+m+1) ((n:Int)+m+2) M t →
  ∃t2,asP ((n:Int)+m) l (i:Int) t=some t2∧TN (n+m+3) ((n:Int)+m+1) ((n:Int)+m+2) (M++aM ((n:Int)+m) i l) t2∧t2.gates=t.gates∧t2.lows=t.lows
 | [],i,M,t,_,_,_,hT=>⟨t,rfl,by rw [aM,List.append_nil];exact hT,rfl,rfl⟩
 | s::l,i,M,t,hs,hi,hM,hT=>by
  rw [List.length_cons] at hi hM;obtain ⟨k1,k2,k3⟩:=hs s (List.mem_cons_self ..);obtain ⟨t2,a1,a2,a3,a4⟩:=T9 (by omega) (by omega) hT (by omega) (Gf hT.ok).2 (u:=(n:Int)+m) (v:=(i:Int)) (s:=s) ⟨by dsimp only;omega,by dsimp only;omega,by dsimp only;omega,by dsimp only;omega,by dsimp only;omega,by dsimp only;omega,by dsimp only;omega,k1,k2,k3⟩;obtain ⟨t4,b1,b2,b3,b4⟩:=A3o hn hm l (i+1) _ t2 (fun x hx=>hs x (List.mem_cons_of_mem _ hx)) (by omega) (by rw [List.length_append,List.length_singleton];omega) a2;refine ⟨t4,?_,?_,b3.trans a3,b4.trans a4⟩
  ·rw [asP,a1];show asP ((n:Int)+m) l ((i:Int)+1) t2=_;rw [show (i:Int)+1=((i+1:Nat):Int) by omega];exact b1
  ·rw [List.append_assoc] at b2;exact b2
theorem A3s {n m:Nat} (hn:n≤100) (hm:m≤100):∀(l:List api_Span) (i:Nat) (M:List cnP) (t:tripP),(∀s∈l,okS s)→i+l.length≤m→M.length+l.length≤1000→TN (n+m+3) ((n:Int)+m+1) ((n:Int)+m+2) M t →
  ∃t2,bsP (n:Int) ((n:Int)+m) l (i:Int) t=some t2∧TN (n+m+3) ((n:Int)+m+1) ((n:Int)+m+2) (M++bM n ((n:Int)+m) i l) t2∧t2.gates=t.gates∧t2.lows=t.lows
 | [],i,M,t,_,_,_,hT=>⟨t,rfl,by rw [bM,List.append_nil];exact hT,rfl,rfl⟩
 | s::l,i,M,t,hs,hi,hM,hT=>by
  rw [List.length_cons] at hi hM;obtain ⟨k1,k2,k3⟩:=hs s (List.mem_cons_self ..);obtain ⟨t2,a1,a2,a3,a4⟩:=T9 (by omega) (by omega) hT (by omega) (Gf hT.ok).2 (u:=((n+i:Nat):Int)) (v:=(n:Int)+m) (s:=s) ⟨by dsimp only;omega,by dsimp only;omega,by dsimp only;omega,by dsimp only;omega,by dsimp only;omega,by dsimp only;omega,by dsimp only;omega,k1,k2,k3⟩;obtain ⟨t4,b1,b2,b3,b4⟩:=A3s hn hm l (i+1) _ t2 (fun x hx=>hs x (List.mem_cons_of_mem _ hx)) (by omega) (by rw [List.length_append,List.length_singleton];omega) a2;refine ⟨t4,?_,?_,b3.trans a3,b4.trans a4⟩
  ·rw [bsP,show ck ((n:Int)+(i:Int))=some ((n+i:Nat):Int) by unfold ck;rw [if_pos ⟨by omega,by omega⟩];rfl];show ((Jm t ((n+i:Nat):Int) ((n:Int)+m) s).bind _)=_;rw [a1];show bsP (n:Int) ((n:Int)+m) l ((i:Int)+1) t2=_;rw [show (i:Int)+1=((i+1:Nat):Int) by omega];exact b1
  ·rw [List.append_assoc] at b2;exact b2
theorem Fx (c:Int):∀(l:List api_Span) (i:Nat),(aM c i l).length=l.length
 | [],_=>rfl
 | s::l,i=>by rw [aM,List.length_cons,Fx c l,List.length_cons]
theorem So (n:Nat) (c:Int):∀(l:List api_Span) (i:Nat),(bM n c i l).length=l.length
 | [],_=>rfl
 | s::l,i=>by rw [bM,List.length_cons,So n c l,List.length_cons]
def Eb (a b:List api_Span) (most:Nat) (gate:Int) (power:api_Span):List cnP:=gM a.length b.length gate power most++aM ((a.length:Int)+(b.length:Int)) 0 a++bM a.length ((a.length:Int)+(b.length:Int)) 0 b
theorem Wi {a b:List api_Span} (ha:0<a.length∧a.length≤100) (hb:0<b.length∧b.length≤100) (has:∀s∈a,okS s) (hbs:∀s∈b,okS s) {most:Nat} (hmo:most≤100) {gate:Int} {power:api_Span} (hp:okS power) {F:Nat} (hF:1000000000000≤F) :
  ∃(t:tripP) (r:Int×List arcP),Hc F a b (most:Int) gate power=some ({ t with net:=⟨t.net.fr,r.2⟩ },r.1==t.need)∧TN (a.length+b.length+3) ((a.length:Int)+b.length+1) ((a.length:Int)+b.length+2) (Eb a b most gate power) t ∧
   t.gates=gN a.length b.length ((a.length:Int)+b.length+1) ((a.length:Int)+b.length+2) gate power most∧t.lows=gL gate power most∧PS (a.length+b.length+3) 1073741824 t.net.arcs r.2 ((a.length:Int)+b.length+1) ((a.length:Int)+b.length+2) t.need (-1) 0 r.1:=by
 have hT0:TN (a.length+b.length+3) ((a.length:Int)+b.length+1) ((a.length:Int)+b.length+2) (gM a.length b.length gate power 0) ⟨⟨List.replicate (a.length+b.length+3) [],[]⟩,0,(a.length:Int)+b.length+1,(a.length:Int)+b.length+2,[],[]⟩:=by
  refine ⟨⟨rfl,⟨List.length_replicate,fun x row hr q hq=>?_,fun q α β h1 _=>?_⟩,fun row hr=>?_⟩,rfl,fun c hc=>?_,rfl,rfl⟩
  ·rw [Ko hr] at hq;cases hq
  ·have:=Bm h1;obtain ⟨k,_,hk⟩:=this;cases hk
  ·rw [(List.mem_replicate.1 hr).2];exact Nat.zero_le _
  ·cases hc
 obtain ⟨t1,a1,a2,a3,a4⟩:=Uo ha hb hp hmo F 0 _ hT0 rfl rfl (Nat.zero_le _) (by omega);have hgl:(gM a.length b.length gate power most).length=most:=by unfold gM;rw [List.length_map,List.length_range]
 obtain ⟨t2,b1,b2,b3,b4⟩:=A3o ha.2 hb.2 a 0 _ t1 has (by omega) (by rw [hgl];omega) a2;obtain ⟨t3,c1,c2,c3,c4⟩:=A3s ha.2 hb.2 b 0 _ t2 hbs (by omega) (by rw [List.length_append,hgl,Fx];omega) b2;have hML:(Eb a b most gate power).length≤300:=by unfold Eb;rw [List.length_append,List.length_append,hgl,Fx,So];omega
 have hsum:=Gf c2.ok;have hneed:=c2.need;have hML2:((Eb a b most gate power).length:Int)≤300:=by omega
 change TN _ _ _ (Eb a b most gate power) t3 at c2
 have hsum2:0≤t3.need∧t3.need≤322122547200:=by
  rw [c2.need];have:=Gf c2.ok;omega
 have hga:GA (a.length+b.length+3) 1073741824 t3.net.arcs:=by rw [c2.net.arcs];exact Lp (Tb (by omega) (by omega) c2.ok)
 obtain ⟨r,d1,d2⟩:=Tj (C:=1073741824) (most:=t3.need) (but:=-1) (u:=(a.length:Int)+b.length+1) (v:=(a.length:Int)+b.length+2) (by omega) (by omega) (by omega) (by omega) (by omega) (F:=F) (by omega) F 0 t3.net.arcs hga c2.net.fr (.inl (by omega)) (Int.le_refl _) (by omega);refine ⟨t3,r,?_,c2,c3.trans (b3.trans a3),c4.trans (b4.trans a4),d2⟩;unfold Hc;rw [A5 (show ck ((a.length:Int)+(b.length:Int))=some ((a.length:Int)+(b.length:Int)) by unfold ck;rw [if_pos ⟨by omega,by omega⟩])];rw [A5 (show ck ((a.length:Int)+(b.length:Int)+3)=some ((a.length:Int)+(b.length:Int)+3) by unfold ck;rw [if_pos ⟨by omega,by omega⟩])];rw [A5 (show mkI 24 ((a.length:Int)+(b.length:Int)+3) ([]:List Int)=some (List.replicate (a.length+b.length+3) []) by
  unfold mkI;rw [if_pos ⟨by omega,by omega,by omega⟩,show ((a.length:Int)+(b.length:Int)+3).toNat=a.length+b.length+3 by omega])]
 rw [A5 (show ck ((a.length:Int)+(b.length:Int)+1)=some ((a.length:Int)+(b.length:Int)+1) by unfold ck;rw [if_pos ⟨by omega,by omega⟩])];rw [A5 (show ck ((a.length:Int)+(b.length:Int)+2)=some ((a.length:Int)+(b.length:Int)+2) by unfold ck;rw [if_pos ⟨by omega,by omega⟩])];rw [show ((0:Nat):Int)=(0:Int) from rfl] at a1 b1 c1;rw [A5 a1,A5 b1,A5 c1,c2.e0,c2.e1];rw [A5 d1]
end Go.Proofs.Ytbhjgebjojdohaa
namespace Go.Proofs.Ytbhjgebjojdohaa
open Go Go.RowKit Go.Eng
set_option maxRecDepth 10000
set_option linter.unusedVariables false
set_option linter.unusedSimpArgs false
def cirV (φ:Int→Int):List cnP→List Int→Int
 | c::M,x::f=>x*(φ c.v-φ c.u)+cirV φ M f
 | _,_=>0
def bdF:List cnP→List Int→Prop
 | c::M,x::f=>c.lo≤x∧x≤c.hi∧bdF M f
 | [],[]=>True
 | _,_=>False
structure Circ (M:List cnP) (f:List Int):Prop where
 bd:bdF M f
 cv:∀φ,cirV φ M f=0
def rsP (e0 e1:Int):List cnP→List Int→List prP
 | c::M,x::f=>⟨c.u,c.v,c.hi-x,x-c.lo⟩::((if 0<c.lo then [⟨e0,c.v,0,c.lo⟩,⟨c.u,e1,0,c.lo⟩] else [])++rsP e0 e1 M f)
 | _,_=>[]
theorem Kj (e0 e1:Int) (c:cnP) (M:List cnP):netQ e0 e1 (c::M)=⟨c.u,c.v,c.hi-c.lo,0⟩::((if 0<c.lo then [⟨e0,c.v,c.lo,0⟩,⟨c.u,e1,c.lo,0⟩] else [])++netQ e0 e1 M):=by unfold netQ;rw [List.flatMap_cons];rfl
theorem Sm.cons {Q R:List prP} {p q:prP} (h:Sm Q R) (e1:q.u=p.u) (e2:q.v=p.v) (e3:q.r+q.c=p.r+p.c):Sm (p::Q) (q::R):=⟨by rw [List.length_cons,List.length_cons,h.len],fun e a b h1 h2=>by
 cases e with
 | zero=>simp at h1 h2;subst h1;subst h2;exact ⟨e1,e2,e3⟩
 | succ e=>exact h.at_ e a b (by simpa using h1) (by simpa using h2)⟩
theorem M8 {n:Nat} {e0 e1:Int}:∀{M:List cnP} {f:List Int},(∀c∈M,okC n e0 e1 c)→bdF M f→Sm (netQ e0 e1 M) (rsP e0 e1 M f)∧NN (rsP e0 e1 M f)∧∀φ,WQ φ (rsP e0 e1 M f)=WQ φ (netQ e0 e1 M)+sumLo M*(φ e0-φ e1)-cirV φ M f
 | [],[],_,_=>⟨Sm.rfl [],fun p hp=>(by cases hp),fun φ=>by show (0:Int)=0+0*_-0;omega⟩
 | [],_::_,_,h=>h.elim
 | _::_,[],_,h=>h.elim
 | c::M,x::f,hk,h=>by
  obtain ⟨b1,b2,b3⟩:=h;obtain ⟨i1,i2,i3⟩:=M8 (fun q hq=>hk q (List.mem_cons_of_mem _ hq)) b3;have k:=hk c (List.mem_cons_self ..);have l1:=k.lo;rw [Kj,rsP];have m1:∀φ:Int→Int,(c.hi-x)*φ c.v=c.hi*φ c.v-x*φ c.v:=fun φ=>Int.sub_mul _ _ _;have m2:∀φ:Int→Int,(x-c.lo)*φ c.u=x*φ c.u-c.lo*φ c.u:=fun φ=>Int.sub_mul _ _ _;have m3:∀φ:Int→Int,(c.hi-c.lo)*φ c.v=c.hi*φ c.v-c.lo*φ c.v:=fun φ=>Int.sub_mul _ _ _;have m4:∀φ:Int→Int,x*(φ c.v-φ c.u)=x*φ c.v-x*φ c.u:=fun φ=>Int.mul_sub _ _ _;have m5:∀φ:Int→Int,(c.lo+sumLo M)*(φ e0-φ e1)=c.lo*φ e0-c.lo*φ e1+sumLo M*(φ e0-φ e1):=fun φ=>by rw [Int.add_mul,Int.mul_sub c.lo]
  by_cases hp:0<c.lo
  ·rw [if_pos hp,if_pos hp];refine ⟨Sm.cons (Sm.cons (Sm.cons i1 (by rfl) (by rfl) (by dsimp only;omega)) (by rfl) (by rfl) (by dsimp only;omega)) (by rfl) (by rfl) (by dsimp only;omega),fun p hp'=>?_,fun φ=>?_⟩
   ·simp only [List.mem_cons,List.cons_append,List.nil_append] at hp';rcases hp' with rfl|rfl|rfl|hp'
    ·dsimp only;omega
    ·dsimp only;omega
    ·dsimp only;omega
    ·exact i2 p hp'
   ·rw [List.cons_append,List.cons_append,List.nil_append,List.cons_append,List.cons_append,List.nil_append,Ah,Ah,Ah,Ah,Ah,Ah,i3,Fa,m5,cirV,m4];dsimp only;rw [m1,m2,m3];simp only [Int.zero_mul];omega
  ·have hz:c.lo=0:=by omega
   rw [if_neg hp,if_neg hp];refine ⟨Sm.cons i1 (by rfl) (by rfl) (by dsimp only;omega),fun p hp'=>?_,fun φ=>?_⟩
   ·simp only [List.mem_cons,List.nil_append] at hp';rcases hp' with rfl|hp'
    ·dsimp only;omega
    ·exact i2 p hp'
   ·rw [List.nil_append,List.nil_append,Ah,Ah,i3,Fa,m5,cirV,m4];dsimp only;rw [m1,m2,m3,hz];simp only [Int.zero_mul];omega
def at1 (z x:Int):Int:=if x=z then 1 else 0
theorem Fi (z:Int):at1 z z=1:=if_pos rfl
theorem As {z x:Int} (h:x≠z):at1 z x=0:=if_neg h
theorem Qs {n:Nat} {e0 e1:Int} (he:e0≠e1):∀{M:List cnP} {Q:List prP},(∀c∈M,okC n e0 e1 c)→Sm (netQ e0 e1 M) Q→NN Q→WQ (at1 e0) Q≤sumLo M∧0≤WQ (at1 e1) Q∧(WQ (at1 e0) Q=sumLo M→WQ (at1 e1) Q=0→∃f,Q=rsP e0 e1 M f∧bdF M f)
 | [],[],_,_,_=>⟨Int.le_refl _,Int.le_refl _,fun _ _=>⟨[],rfl,trivial⟩⟩
 | [],_::_,_,h,_=>by have:=h.len;simp [netQ] at this
 | c::M,Q,hk,h,hn=>by
  have k:=hk c (List.mem_cons_self ..);have l1:=k.lo;have l2:=k.le;have hk':∀x∈M,okC n e0 e1 x:=fun q hq=>hk q (List.mem_cons_of_mem _ hq);rw [Kj] at h;rw [Fa]
  by_cases hp:0<c.lo
  ·rw [if_pos hp] at h;rcases Q with _|⟨p,_|⟨h1,_|⟨h2,Q⟩⟩⟩
   ·have:=h.len;simp at this
   ·have:=h.len;simp at this
   ·have:=h.len;simp at this
   obtain ⟨t1,a1,a2,a3⟩:=h.tail;obtain ⟨t2,b1,b2,b3⟩:=Sm.tail t1;obtain ⟨t3,d1,d2,d3⟩:=Sm.tail t2;dsimp only at a1 a2 a3 b1 b2 b3 d1 d2 d3;obtain ⟨i1,i2,i3⟩:=Qs he hk' t3 (fun x hx=>hn x (by simp [hx]));have np:=hn p (by simp);have nh1:=hn h1 (by simp);have nh2:=hn h2 (by simp);rw [Ah,Ah,Ah,Ah,Ah,Ah,a1,a2,b1,b2,d1,d2,As k.u0,As k.u1,As k.v0,As k.v1,Fi,Fi,As he,As (fun e=>he e.symm)];simp only [Int.mul_zero,Int.mul_one,Int.zero_add,Int.add_zero];refine ⟨by omega,by omega,fun g1 g2=>?_⟩;obtain ⟨f,q1,q2⟩:=i3 (by omega) (by omega);refine ⟨(c.lo+p.c)::f,?_,by omega,by omega,q2⟩;rw [rsP,if_pos hp,←q1];rcases p with ⟨pu,pv,pr,pc⟩
   rcases h1 with ⟨hu,hv,hr,hc⟩
   rcases h2 with ⟨gu,gv,gr,gc⟩
   dsimp only at *;subst a1;subst a2;subst b1;subst b2;subst d1;subst d2;have x1:pr=c.hi-(c.lo+pc):=by omega
   have x2:pc=c.lo+pc-c.lo:=by omega
   have x3:hr=0:=by omega
   have x4:hc=c.lo:=by omega
   have x5:gr=0:=by omega
   have x6:gc=c.lo:=by omega
   rw [x3,x4,x5,x6,x1,←x2];rfl
  ·have hz:c.lo=0:=by omega
   rw [if_neg hp] at h;rcases Q with _|⟨p,Q⟩
   ·have:=h.len;simp at this
   obtain ⟨t1,a1,a2,a3⟩:=h.tail;dsimp only at a1 a2 a3;obtain ⟨i1,i2,i3⟩:=Qs he hk' t1 (fun x hx=>hn x (by simp [hx]));have np:=hn p (by simp);rw [Ah,Ah,a1,a2,As k.u0,As k.u1,As k.v0,As k.v1];simp only [Int.mul_zero,Int.mul_one,Int.zero_add,Int.add_zero];refine ⟨by omega,by omega,fun g1 g2=>?_⟩;obtain ⟨f,q1,q2⟩:=i3 (by omega) (by omega);refine ⟨p.c::f,?_,by omega,by omega,q2⟩;rw [rsP,if_neg hp,←q1];rcases p with ⟨pu,pv,pr,pc⟩
   dsimp only at *;subst a1;subst a2;have x1:pr=c.hi-pc:=by omega
   rw [x1,hz,Int.sub_zero];rfl
end Go.Proofs.Ytbhjgebjojdohaa
namespace Go.Proofs.Ytbhjgebjojdohaa
open Go Go.RowKit Go.Eng
set_option maxRecDepth 10000
set_option linter.unusedVariables false
set_option linter.unusedSimpArgs false
theorem V2 {n:Nat} {C:Int} {Q:List prP} {B:List arcP} {u v most but tot r:Int} (h:PS n C (flatP 0 Q) B u v most but tot r):∃R,B=flatP 0 R∧Sm Q R∧NN R∧∀φ,WQ φ R=WQ φ Q+(r-tot)*(φ u-φ v):=by
 obtain ⟨R,h1,h2,h3⟩:=A5y h.top h.sums h.ga;refine ⟨R,h1,h2,h3,fun φ=>?_⟩;have:=h.wt φ;rw [h1,Vt,Vt] at this;exact this
theorem Ru {A:List arcP} {R:List prP} {but:Int} {S:Int→Bool} (h:∀(a:Int) (α β:arcP),getI (flatP 0 R) a=some α→getI (flatP 0 R) α.twin=some β→¬exc A but a→S β.to=true→S α.to=false→α.room=0) {e:Nat} {p:prP} (hp:R[e]? = some p) (h0:¬exc A but (2*(e:Int))) (h1:¬exc A but (2*(e:Int)+1)) :
  (S p.u=true→S p.v=false→p.r=0)∧(S p.v=true→S p.u=false→p.c=0):=by
 have hg:=Bx (k:=0) hp;rw [Nat.zero_add] at hg;have g0:getI (flatP 0 R) (2*(e:Int))=some ⟨p.v,p.r,2*(e:Int)+1⟩:=(congrArg (getI (flatP 0 R)) (by omega:2*(e:Int)=((2*e:Nat):Int))).trans (getI_nat.trans hg.1);have g1:getI (flatP 0 R) (2*(e:Int)+1)=some ⟨p.u,p.c,2*(e:Int)⟩:=(congrArg (getI (flatP 0 R)) (by omega:2*(e:Int)+1=((2*e+1:Nat):Int))).trans (getI_nat.trans hg.2);exact ⟨fun a b=>h _ _ _ g0 g1 h0 a b,fun a b=>h _ _ _ g1 g0 h1 a b⟩
theorem Nr {A:List arcP} {but a:Int} (h:but<0):¬exc A but a:=fun e=>by have:=e.1;omega
theorem Rz {a b:List api_Span} (ha:0<a.length∧a.length≤100) (hb:0<b.length∧b.length≤100) (has:∀s∈a,okS s) (hbs:∀s∈b,okS s) {most:Nat} (hmo:most≤100) {gate:Int} {power:api_Span} (hp:okS power) {F:Nat} (hF:1000000000000≤F) :
  ∃(t:tripP) (is:Bool),Hc F a b (most:Int) gate power=some (t,is)∧t.gates=gN a.length b.length ((a.length:Int)+b.length+1) ((a.length:Int)+b.length+2) gate power most∧t.lows=gL gate power most∧FR (a.length+b.length+3) t.net.fr t.net.arcs ∧
   (∀c∈Eb a b most gate power,okC (a.length+b.length+3) ((a.length:Int)+b.length+1) ((a.length:Int)+b.length+2) c) ∧
   (is=true→∃f,Circ (Eb a b most gate power) f∧t.net.arcs=flatP 0 (rsP ((a.length:Int)+b.length+1) ((a.length:Int)+b.length+2) (Eb a b most gate power) f))∧(is=false→∀f,¬Circ (Eb a b most gate power) f):=by
 obtain ⟨t,r,h1,h2,h3,h4,h5⟩:=Wi ha hb has hbs hmo hp hF;have hs:=Gf h2.ok;rw [h2.net.arcs,h2.need] at h5;obtain ⟨R,r1,r2,r3,r4⟩:=V2 h5;refine ⟨_,_,h1,h3,h4,Pd h5.top (by rw [←h2.net.arcs];exact h2.net.fr),h2.ok,fun his=>?_,fun his f hf=>?_⟩
 ·have hr:r.1=sumLo (Eb a b most gate power):=by rw [←h2.need];exact eq_of_beq his
  obtain ⟨i1,i2,i3⟩:=Qs (e0:=(a.length:Int)+b.length+1) (e1:=(a.length:Int)+b.length+2) (by omega) h2.ok r2 r3;have z0:∀M:List cnP,(∀c∈M,okC (a.length+b.length+3) ((a.length:Int)+b.length+1) ((a.length:Int)+b.length+2) c)→WQ (at1 ((a.length:Int)+b.length+1)) (netQ ((a.length:Int)+b.length+1) ((a.length:Int)+b.length+2) M)=0∧WQ (at1 ((a.length:Int)+b.length+2)) (netQ ((a.length:Int)+b.length+1) ((a.length:Int)+b.length+2) M)=sumLo M:=by
   intro M
   induction M with
   | nil=>intro _;exact ⟨rfl,rfl⟩
   | cons c M ih =>
    intro hk;obtain ⟨j1,j2⟩:=ih fun x hx=>hk x (List.mem_cons_of_mem _ hx);have k:=hk c (List.mem_cons_self ..);have:=k.lo;rw [Kj,Fa];have n1:(a.length:Int)+b.length+1≠(a.length:Int)+b.length+2:=by omega
    by_cases hp:0<c.lo
    ·rw [if_pos hp,List.cons_append,List.cons_append,List.nil_append,Ah,Ah,Ah,Ah,Ah,Ah];dsimp only;rw [As k.u0,As k.u1,As k.v0,As k.v1,Fi,Fi,As n1,As n1.symm,j1,j2];omega
    ·rw [if_neg hp,List.nil_append,Ah,Ah];dsimp only;rw [As k.u0,As k.u1,As k.v0,As k.v1,j1,j2];omega
  obtain ⟨y1,y2⟩:=z0 _ h2.ok;have n1:(a.length:Int)+b.length+1≠(a.length:Int)+b.length+2:=by omega
  have w0:=r4 (at1 ((a.length:Int)+b.length+1));have w1:=r4 (at1 ((a.length:Int)+b.length+2));rw [Fi,As n1.symm,y1,hr] at w0;rw [Fi,As n1,y2,hr] at w1;obtain ⟨f,q1,q2⟩:=i3 (by omega) (by omega);refine ⟨f,⟨q2,fun φ=>?_⟩,by rw [r1,q1]⟩;have e1:=(M8 h2.ok q2).2.2 φ;have e2:=r4 φ;rw [q1,hr,Int.sub_zero] at e2;omega
 ·have hr:r.1≠sumLo (Eb a b most gate power):=by
   intro e;rw [←h2.need] at e;rw [e] at his;simp at his
  have hle:=h5.le hs.1;obtain ⟨S,c1,c2,c3⟩:=h5.cut (by omega);rw [r1] at c3;obtain ⟨s1,s2,s3⟩:=M8 h2.ok hf.bd;have hc:=Sw (S:=S) (r2.symm.tr s1) s2 fun p hp=>by
   obtain ⟨e,he⟩:=List.mem_iff_getElem?.1 hp;exact Ru c3 he (Nr (by omega)) (Nr (by omega))
  have e1:=s3 (ind S);have e2:=r4 (ind S);rw [hf.cv] at e1;have i0:ind S ((a.length:Int)+b.length+1)=1:=if_pos c1;have i1:ind S ((a.length:Int)+b.length+2)=0:=if_neg (by rw [c2];simp);rw [i0,i1] at e1 e2;omega
end Go.Proofs.Ytbhjgebjojdohaa
namespace Go.Proofs.Ytbhjgebjojdohaa
open Go Go.RowKit Go.Eng
set_option maxRecDepth 10000
set_option linter.unusedVariables false
set_option linter.unusedSimpArgs false
def D2 (ψ:Nat→Int):Nat→List Int→Int
 | _,[]=>0
 | k,x::p=>x*ψ k+D2 ψ (k+1) p
def sumAt (n i:Nat) (p:List Int):Int:=D2 (fun r=>if r%n=i then 1 else 0) 0 p
structure PF (a b:List api_Span) (most:Nat) (gate:Int) (power:api_Span) (p:List Int):Prop where
 len:p.length=most
 gb:∀(r:Nat) (x:Int),p[r]? = some x→(gS gate power r).Lo≤x∧x≤(gS gate power r).Hi
 sa:∀(i:Nat) (s:api_Span),a[i]? = some s→s.Lo≤sumAt a.length i p∧sumAt a.length i p≤s.Hi
 sb:∀(i:Nat) (s:api_Span),b[i]? = some s→s.Lo≤sumAt b.length i p∧sumAt b.length i p≤s.Hi
theorem Lr (ψ χ:Nat→Int):∀(p:List Int) (k:Nat),D2 (fun r=>ψ r+χ r) k p=D2 ψ k p+D2 χ k p
 | [],_=>rfl
 | x::p,k=>by rw [D2,D2,D2,Lr ψ χ p,Int.mul_add];omega
theorem Kz {ψ χ:Nat→Int} (h:∀r,ψ r=χ r) (p:List Int) (k:Nat):D2 ψ k p=D2 χ k p:=by rw [show ψ=χ from funext h]
theorem Mu:∀(p:List Int) (k:Nat),D2 (fun _=>0) k p=0
 | [],_=>rfl
 | x::p,k=>by rw [D2,Mu p,Int.mul_zero];rfl
theorem Cm (φ:Int→Int):∀{M M2:List cnP} {f f2:List Int},f.length=M.length→cirV φ (M++M2) (f++f2)=cirV φ M f+cirV φ M2 f2
 | [],M2,[],f2,_=>by rw [List.nil_append,List.nil_append];show _=0+_;omega
 | [],_,_::_,_,h=>by simp at h
 | _::_,_,[],_,h=>by simp at h
 | c::M,M2,x::f,f2,h=>by
  rw [List.cons_append,List.cons_append,cirV,cirV,Cm φ (by simpa using h)];omega
theorem Gk:∀{M:List cnP} {f:List Int},bdF M f→f.length=M.length
 | [],[],_=>rfl
 | [],_::_,h=>h.elim
 | _::_,[],h=>h.elim
 | c::M,x::f,h=>by rw [List.length_cons,List.length_cons,Gk h.2.2]
theorem Ha:∀{M M2:List cnP} {f:List Int},bdF (M++M2) f→∃f1 f2,f=f1++f2∧bdF M f1∧bdF M2 f2
 | [],M2,f,h=>⟨[],f,rfl,trivial,h⟩
 | c::M,M2,[],h=>h.elim
 | c::M,M2,x::f,h=>by
  obtain ⟨f1,f2,rfl,h1,h2⟩:=Ha h.2.2;exact ⟨x::f1,f2,rfl,⟨h.1,h.2.1,h1⟩,h2⟩
theorem Ga:∀{M M2:List cnP} {f1 f2:List Int},bdF M f1→bdF M2 f2→bdF (M++M2) (f1++f2)
 | [],M2,[],f2,_,h=>h
 | [],_,_::_,_,h,_=>h.elim
 | _::_,_,[],_,h,_=>h.elim
 | c::M,M2,x::f,f2,h1,h2=>⟨h1.1,h1.2.1,Ga h1.2.2 h2⟩
theorem T2 (n m:Nat) (gate:Int) (power:api_Span) (k l:Nat):(List.range' k (l+1)).map (gC n m gate power)=gC n m gate power k::(List.range' (k+1) l).map (gC n m gate power):=by rw [List.range'_succ,List.map_cons]
theorem Hm (φ:Int→Int) (n m:Nat) (gate:Int) (power:api_Span):∀(p:List Int) (k:Nat),cirV φ ((List.range' k p.length).map (gC n m gate power)) p=D2 (fun r=>φ ((n+r%m:Nat):Int)-φ ((r%n:Nat):Int)) k p
 | [],_=>rfl
 | x::p,k=>by rw [List.length_cons,T2,cirV,Hm φ n m gate power p,D2];rfl
theorem Pi (n m:Nat) (gate:Int) (power:api_Span):∀(p:List Int) (k:Nat),bdF ((List.range' k p.length).map (gC n m gate power)) p↔∀(r:Nat) (x:Int),p[r]? = some x→(gS gate power (k+r)).Lo≤x∧x≤(gS gate power (k+r)).Hi
 | [],_=>⟨fun _ r x h=>by simp at h,fun _=>trivial⟩
 | x::p,k=>by
  rw [List.length_cons,T2];show _∧_∧bdF _ _↔_;rw [Pi n m gate power p (k+1)];constructor
  ·rintro ⟨h1,h2,h3⟩ r y hy
   cases r with
   | zero=>simp at hy;subst hy;exact ⟨h1,h2⟩
   | succ r =>
    have:=h3 r y (by simpa using hy);rw [show k+(r+1)=k+1+r by omega];exact this
  ·intro h;refine ⟨(h 0 x rfl).1,(h 0 x rfl).2,fun r y hy=>?_⟩;have:=h (r+1) y (by simpa using hy);rw [show k+1+r=k+(r+1) by omega];exact this
def tab (h:Nat→Int):Nat→Nat→List Int
 | _,0=>[]
 | k,l+1=>h k::tab h (k+1) l
def Cf (g:Nat→Int):Nat→Nat→Int
 | _,0=>0
 | k,l+1=>g k+Cf g (k+1) l
theorem Tx (h:Nat→Int):∀(l k:Nat),(tab h k l).length=l
 | 0,_=>rfl
 | l+1,k=>by rw [tab,List.length_cons,Tx h l]
theorem A0b (φ:Int→Int) (c:Int) (h:Nat→Int):∀(l:List api_Span) (k:Nat),cirV φ (aM c k l) (tab h k l.length)=Cf (fun i=>h i*(φ (i:Int)-φ c)) k l.length
 | [],_=>rfl
 | s::l,k=>by rw [aM,List.length_cons,tab,cirV,A0b φ c h l,Cf]
theorem A0c (φ:Int→Int) (n:Nat) (c:Int) (h:Nat→Int):∀(l:List api_Span) (k:Nat),cirV φ (bM n c k l) (tab h k l.length)=Cf (fun i=>h i*(φ c-φ ((n+i:Nat):Int))) k l.length
 | [],_=>rfl
 | s::l,k=>by rw [bM,List.length_cons,tab,cirV,A0c φ n c h l,Cf]
theorem A4l (c:Int) (h:Nat→Int):∀(l:List api_Span) (k:Nat),bdF (aM c k l) (tab h k l.length)↔∀(i:Nat) (s:api_Span),l[i]? = some s→s.Lo≤h (k+i)∧h (k+i)≤s.Hi
 | [],_=>⟨fun _ i s hs=>by simp at hs,fun _=>trivial⟩
 | s::l,k=>by
  rw [aM,List.length_cons,tab];show _∧_∧bdF _ _↔_;rw [A4l c h l (k+1)];constructor
  ·rintro ⟨h1,h2,h3⟩ i s' hs
   cases i with
   | zero=>simp at hs;subst hs;exact ⟨h1,h2⟩
   | succ i=>have:=h3 i s' (by simpa using hs);rw [show k+(i+1)=k+1+i by omega];exact this
  ·intro g;refine ⟨(g 0 s rfl).1,(g 0 s rfl).2,fun i s' hs=>?_⟩;have:=g (i+1) s' (by simpa using hs);rw [show k+1+i=k+(i+1) by omega];exact this
theorem A4m (n:Nat) (c:Int) (h:Nat→Int):∀(l:List api_Span) (k:Nat),bdF (bM n c k l) (tab h k l.length)↔∀(i:Nat) (s:api_Span),l[i]? = some s→s.Lo≤h (k+i)∧h (k+i)≤s.Hi
 | [],_=>⟨fun _ i s hs=>by simp at hs,fun _=>trivial⟩
 | s::l,k=>by
  rw [bM,List.length_cons,tab];show _∧_∧bdF _ _↔_;rw [A4m n c h l (k+1)];constructor
  ·rintro ⟨h1,h2,h3⟩ i s' hs
   cases i with
   | zero=>simp at hs;subst hs;exact ⟨h1,h2⟩
   | succ i=>have:=h3 i s' (by simpa using hs);rw [show k+(i+1)=k+1+i by omega];exact this
  ·intro g;refine ⟨(g 0 s rfl).1,(g 0 s rfl).2,fun i s' hs=>?_⟩;have:=g (i+1) s' (by simpa using hs);rw [show k+1+i=k+(i+1) by omega];exact this
theorem R6:∀(f:List Int) (k:Nat),f=tab (fun i=>f.getD (i-k) 0) k f.length
 | [],_=>rfl
 | x::f,k=>by
  rw [List.length_cons,tab]
  congr 1
  ·rw [Nat.sub_self];rfl
  ·have:=R6 f (k+1)
   conv=>lhs;rw [this]
   have:∀(l j:Nat),k+1≤j→tab (fun i=>f.getD (i-(k+1)) 0) j l=tab (fun i=>(x::f).getD (i-k) 0) j l:=by
    intro l
    induction l with
    | zero=>intro _ _;rfl
    | succ l ih =>
     intro j hj;rw [tab,tab,ih (j+1) (by omega)]
     congr 1
     rw [show j-k=(j-(k+1))+1 by omega,List.getD_cons_succ]
   exact this _ _ (Nat.le_refl _)
theorem J0 (h:Nat→Int) (g:Nat→Int) (z:Nat):∀(l k:Nat),(∀i,i≠z→g i=0)→Cf (fun i=>h i*g i) k l=if k≤z∧z<k+l then h z*g z else 0
 | 0,k,_=>by rw [Cf,if_neg (by omega)]
 | l+1,k,hg=>by
  rw [Cf,J0 h g z l (k+1) hg]
  by_cases e:k=z
  ·subst e;rw [if_neg (by omega),if_pos (by omega)];omega
  ·rw [hg k e,Int.mul_zero,Int.zero_add]
   by_cases e2:k+1≤z∧z<k+1+l
   ·rw [if_pos e2,if_pos (by omega)]
   ·rw [if_neg e2,if_neg (by omega)]
theorem G5 (g:Nat→Int):∀(l k:Nat),(∀i,k≤i→i<k+l→g i=0)→Cf g k l=0
 | 0,_,_=>rfl
 | l+1,k,h=>by rw [Cf,h k (Nat.le_refl _) (by omega),G5 g l (k+1) (fun i h1 h2=>h i (by omega) (by omega))];rfl
theorem Hz (g h:Nat→Int):∀(l k:Nat),Cf (fun i=>g i+h i) k l=Cf g k l+Cf h k l
 | 0,_=>rfl
 | l+1,k=>by rw [Cf,Cf,Cf,Hz g h l];omega
theorem Ld (n:Nat) (hn:0<n) (g:Nat→Int):∀(p:List Int) (k:Nat),Cf (fun i=>D2 (fun r=>if r%n=i then 1 else 0) k p*g i) 0 n=D2 (fun r=>g (r%n)) k p
 | [],k=>by rw [G5];rfl;intro i _ _;show 0*_=_;rw [Int.zero_mul]
 | x::p,k=>by
  have e:(fun i=>D2 (fun r=>if r%n=i then 1 else 0) k (x::p)*g i)=fun i=>x*(if k%n=i then g i else 0)+D2 (fun r=>if r%n=i then 1 else 0) (k+1) p*g i:=by
   funext i
   rw [D2,Int.add_mul]
   congr 1
   split<;>simp
  rw [e,Hz,Ld n hn g p (k+1),D2]
  congr 1
  have:=J0 (fun _=>x) (fun i=>if k%n=i then g i else 0) (k%n) n 0 (fun i hi=>if_neg (fun e=>hi e.symm));rw [this,if_pos ⟨Nat.zero_le _,by have:=Nat.mod_lt k hn;omega⟩,if_pos rfl]
end Go.Proofs.Ytbhjgebjojdohaa
namespace Go.Proofs.Ytbhjgebjojdohaa
open Go Go.RowKit Go.Eng
set_option maxRecDepth 10000
set_option linter.unusedVariables false
set_option linter.unusedSimpArgs false
theorem Gb (n m:Nat) (gate:Int) (power:api_Span) (k:Nat):gM n m gate power k=(List.range' 0 k).map (gC n m gate power):=by unfold gM;rw [List.range_eq_range']
theorem Up (ψ:Nat→Int):∀(p:List Int) (k:Nat),D2 (fun r=>- ψ r) k p=- D2 ψ k p
 | [],_=>rfl
 | x::p,k=>by rw [D2,D2,Up ψ p,Int.mul_neg];omega
theorem P1 {a b:List api_Span} {most:Nat} {gate:Int} {power:api_Span} {p:List Int} (ha:0<a.length) (hb:0<b.length) (h:PF a b most gate power p) :
  Circ (Eb a b most gate power) (p++tab (fun i=>sumAt a.length i p) 0 a.length++tab (fun i=>sumAt b.length i p) 0 b.length):=by
 have hl:p.length=(gM a.length b.length gate power most).length:=by unfold gM;rw [List.length_map,List.length_range,h.len]
 have eg:gM a.length b.length gate power most=(List.range' 0 p.length).map (gC a.length b.length gate power):=by rw [Gb,h.len]
 constructor
 ·unfold Eb;refine Ga (Ga ?_ ?_) ?_
  ·rw [eg,Pi];intro r x hx;rw [Nat.zero_add];exact h.gb r x hx
  ·rw [A4l];intro i s hs;rw [Nat.zero_add];exact h.sa i s hs
  ·rw [A4m];intro i s hs;rw [Nat.zero_add];exact h.sb i s hs
 ·intro φ;unfold Eb;rw [Cm φ (by rw [List.length_append,List.length_append,Tx,Fx,hl]),Cm φ hl,eg,Hm,A0b,A0c];have e1:=Ld a.length ha (fun i=>φ (i:Int)-φ ((a.length:Int)+(b.length:Int))) p 0;have e2:=Ld b.length hb (fun i=>φ ((a.length:Int)+(b.length:Int))-φ ((a.length+i:Nat):Int)) p 0;unfold sumAt;rw [e1,e2,←Lr,←Lr];rw [Kz (χ:=fun _=>0) (fun r=>by omega),Mu]
theorem P7 {a b:List api_Span} {most:Nat} {gate:Int} {power:api_Span} {f:List Int} (ha:0<a.length) (hb:0<b.length) (h:Circ (Eb a b most gate power) f):∃p f2,f=p++f2∧PF a b most gate power p:=by
 obtain ⟨hbd,hcv⟩:=h;unfold Eb at hbd hcv;obtain ⟨g1,fb,rfl,h1,h3⟩:=Ha hbd;obtain ⟨p,fa,rfl,h1,h2⟩:=Ha h1;have l1:=Gk h1;have l2:=Gk h2;have l3:=Gk h3;rw [Fx] at l2;rw [So] at l3;have hpl:p.length=most:=by rw [l1];unfold gM;rw [List.length_map,List.length_range]
 have eg:gM a.length b.length gate power most=(List.range' 0 p.length).map (gC a.length b.length gate power):=by rw [Gb,hpl]
 obtain ⟨ha',hha'⟩:∃g,g=fun i=>fa.getD (i-0) 0:=⟨_,rfl⟩;obtain ⟨hb',hhb'⟩:∃g,g=fun i=>fb.getD (i-0) 0:=⟨_,rfl⟩;have ea:fa=tab ha' 0 a.length:=by rw [hha',←l2];exact R6 fa 0
 have eb:fb=tab hb' 0 b.length:=by rw [hhb',←l3];exact R6 fb 0
 rw [ea] at h2;rw [eb] at h3;rw [A4l] at h2;rw [A4m] at h3;have key:∀φ:Int→Int,D2 (fun r=>φ ((a.length+r%b.length:Nat):Int)-φ ((r%a.length:Nat):Int)) 0 p+Cf (fun i=>ha' i*(φ (i:Int)-φ ((a.length:Int)+(b.length:Int)))) 0 a.length+Cf (fun i=>hb' i*(φ ((a.length:Int)+(b.length:Int))-φ ((a.length+i:Nat):Int))) 0 b.length=0:=fun φ=>by
  have:=hcv φ;rw [Cm φ (by rw [List.length_append,List.length_append,Fx,l1,l2]),Cm φ l1,eg,Hm,ea,eb,A0b,A0c] at this;exact this
 have sA:∀i,i<a.length→sumAt a.length i p=ha' i:=fun i hi=>by
  have:=key (at1 (i:Int));rw [J0 ha' (fun j=>at1 (i:Int) (j:Int)-at1 (i:Int) ((a.length:Int)+(b.length:Int))) i a.length 0 (fun j hj=>by
   show at1 (i:Int) (j:Int)-at1 (i:Int) ((a.length:Int)+(b.length:Int))=0;rw [As (by omega),As (by omega)];rfl),if_pos ⟨Nat.zero_le _,by omega⟩] at this
  rw [Fi,As (show (a.length:Int)+(b.length:Int)≠(i:Int) by omega)] at this;rw [G5 (fun j=>hb' j*(0-at1 (i:Int) ((a.length+j:Nat):Int))) b.length 0 (fun j _ _=>by rw [As (by omega)];simp)] at this;rw [Kz (χ:=fun r=>- (if r%a.length=i then (1:Int) else 0)) (fun r=>by
   have h1:=Nat.mod_lt r ha;rw [As (show ((a.length+r%b.length:Nat):Int)≠(i:Int) by omega)]
   by_cases e:r%a.length=i
   ·rw [e,Fi,if_pos rfl];rfl
   ·rw [As (by omega),if_neg e];rfl),Up] at this
  unfold sumAt;omega
 have sB:∀i,i<b.length→sumAt b.length i p=hb' i:=fun i hi=>by
  have:=key (at1 ((a.length+i:Nat):Int));rw [G5 (fun j=>ha' j*(at1 ((a.length+i:Nat):Int) (j:Int)-at1 ((a.length+i:Nat):Int) ((a.length:Int)+(b.length:Int)))) a.length 0 (fun j _ hj=>by rw [As (by omega),As (by omega)];simp)] at this;rw [J0 hb' (fun j=>at1 ((a.length+i:Nat):Int) ((a.length:Int)+(b.length:Int))-at1 ((a.length+i:Nat):Int) ((a.length+j:Nat):Int)) i b.length 0 (fun j hj=>by
   show at1 ((a.length+i:Nat):Int) ((a.length:Int)+(b.length:Int))-at1 ((a.length+i:Nat):Int) ((a.length+j:Nat):Int)=0;rw [As (by omega),As (by omega)];rfl),if_pos ⟨Nat.zero_le _,by omega⟩] at this
  rw [Fi,As (show (a.length:Int)+(b.length:Int)≠((a.length+i:Nat):Int) by omega)] at this;rw [Kz (χ:=fun r=>(if r%b.length=i then (1:Int) else 0)) (fun r=>by
   have h1:=Nat.mod_lt r ha;rw [As (show ((r%a.length:Nat):Int)≠((a.length+i:Nat):Int) by omega)]
   by_cases e:r%b.length=i
   ·rw [e,Fi,if_pos rfl];rfl
   ·rw [As (by omega),if_neg e];rfl)] at this
  unfold sumAt;omega
 refine ⟨p,fa++fb,by rw [List.append_assoc],hpl,fun r x hx=>?_,fun i s hs=>?_,fun i s hs=>?_⟩
 ·rw [eg,Pi] at h1;have:=h1 r x hx;rw [Nat.zero_add] at this;exact this
 ·have:=h2 i s hs;rw [Nat.zero_add] at this;rw [sA i (List.getElem?_eq_some_iff.1 hs).1];exact this
 ·have:=h3 i s hs;rw [Nat.zero_add] at this;rw [sB i (List.getElem?_eq_some_iff.1 hs).1];exact this
end Go.Proofs.Ytbhjgebjojdohaa
namespace Go.Proofs.Ytbhjgebjojdohaa
open Go Go.RowKit Go.Eng
set_option maxRecDepth 10000
set_option linter.unusedVariables false
set_option linter.unusedSimpArgs false
theorem Ts (e0 e1:Int):∀{M:List cnP} {f:List Int},f.length=M.length→(rsP e0 e1 M f).length=(netQ e0 e1 M).length
 | [],[],_=>rfl
 | [],_::_,h=>by simp at h
 | _::_,[],h=>by simp at h
 | c::M,x::f,h=>by
  rw [rsP,Kj,List.length_cons,List.length_cons,List.length_append,List.length_append,Ts e0 e1 (by simpa using h)]
  split<;>rfl
theorem Y9 (e0 e1:Int):∀{M M2:List cnP} {f f2:List Int},f.length=M.length→rsP e0 e1 (M++M2) (f++f2)=rsP e0 e1 M f++rsP e0 e1 M2 f2
 | [],_,[],_,_=>rfl
 | [],_,_::_,_,h=>by simp at h
 | _::_,_,[],_,h=>by simp at h
 | c::M,M2,x::f,f2,h=>by
  rw [List.cons_append,List.cons_append,rsP,rsP,Y9 e0 e1 (by simpa using h),List.cons_append,List.append_assoc]
theorem A0t (n m:Nat) (gate:Int) (power:api_Span) {r most:Nat} (h:r<most):gM n m gate power most=gM n m gate power r++gC n m gate power r::(List.range' (r+1) (most-r-1)).map (gC n m gate power):=by
 rw [Gb,Gb,←T2,←List.map_append]
 congr 1
 have:=List.range'_append_1 (s:=0) (m:=r) (n:=most-r-1+1);rw [Nat.zero_add] at this;rw [this]
 congr 1
 omega
theorem P3 {a b:List api_Span} {most:Nat} {gate:Int} {power:api_Span} {p f2:List Int} {e0 e1:Int} (hl:p.length=most) {r:Nat} {x:Int} (hx:p[r]? = some x) :
  (rsP e0 e1 (Eb a b most gate power) (p++f2))[(netQ e0 e1 (gM a.length b.length gate power r)).length]? = some ⟨((r%a.length:Nat):Int),((a.length+r%b.length:Nat):Int),(gS gate power r).Hi-x,x-(gS gate power r).Lo⟩:=by
 have hr:r<most:=by rw [←hl];exact (List.getElem?_eq_some_iff.1 hx).1
 have hp:p=p.take r++x::p.drop (r+1):=by
  have h1:=(List.getElem?_eq_some_iff.1 hx);rw [←h1.2,List.getElem_cons_drop,List.take_append_drop]
 have ht:(p.take r).length=(gM a.length b.length gate power r).length:=by
  unfold gM;rw [List.length_take,List.length_map,List.length_range];omega
 unfold Eb;rw [A0t _ _ _ _ hr]
 conv=>lhs;rw [hp]
 rw [List.append_assoc,List.append_assoc,List.append_assoc,Y9 e0 e1 ht,List.getElem?_append_right (by rw [Ts e0 e1 ht];exact Nat.le_refl _),Ts e0 e1 ht,Nat.sub_self,List.cons_append,List.cons_append,rsP];rfl
theorem Ql {a b:List api_Span} {most:Nat} {gate:Int} {power:api_Span} {p f2:List Int} {e0 e1:Int} (hl:p.length=most) {t:tripP} (hg:t.gates=gN a.length b.length e0 e1 gate power most) (hw:t.lows=gL gate power most) (ha:t.net.arcs=flatP 0 (rsP e0 e1 (Eb a b most gate power) (p++f2))) {r:Nat} {x:Int} (hx:p[r]? = some x) (hb:-1000000000000≤x∧x≤1000000000000):Hj t (r:Int)=some x:=by
 have hr:r<most:=by rw [←hl];exact (List.getElem?_eq_some_iff.1 hx).1
 have q:=Bx (k:=0) (P3 (a:=a) (b:=b) (most:=most) (gate:=gate) (power:=power) (f2:=f2) (e0:=e0) (e1:=e1) hl hx);rw [Nat.zero_add,←ha] at q;have g1:getI t.lows (r:Int)=some (gS gate power r).Lo:=by
  rw [getI_nat,hw];unfold gL;rw [List.getElem?_map,List.getElem?_range hr];rfl
 have g2:getI t.gates (r:Int)=some (2*((netQ e0 e1 (gM a.length b.length gate power r)).length:Int)):=by
  rw [getI_nat,hg];unfold gN;rw [List.getElem?_map,List.getElem?_range hr];rfl
 have g3:=(congrArg (getI t.net.arcs) (by omega:2*((netQ e0 e1 (gM a.length b.length gate power r)).length:Int)=((2*(netQ e0 e1 (gM a.length b.length gate power r)).length:Nat):Int))).trans (getI_nat.trans q.1);have g4:=(congrArg (getI t.net.arcs) (by omega:2*((netQ e0 e1 (gM a.length b.length gate power r)).length:Int)+1=((2*(netQ e0 e1 (gM a.length b.length gate power r)).length+1:Nat):Int))).trans (getI_nat.trans q.2);unfold Hj;rw [A5 g1,A5 g2,A5 g3];dsimp only;rw [A5 g4];dsimp only;rw [show (gS gate power r).Lo+(x-(gS gate power r).Lo)=x by omega];unfold ck;rw [if_pos ⟨by omega,by omega⟩]
theorem Sa {t:tripP} {p:List Int} {most:Nat} (hl:p.length=most) (hm:most≤1000) (h:∀(r:Nat) (x:Int),p[r]? = some x→Hj t (r:Int)=some x):∀(F k:Nat),k≤most→most-k<F→Gm (most:Int) t F (k:Int) (p.take k)=some p
 | 0,_,_,hF=>by omega
 | F+1,k,hk,hF=>by
  by_cases hlt:k<most
  ·obtain ⟨x,hx⟩:∃x,p[k]? = some x:=⟨_,List.getElem?_eq_getElem (by omega)⟩;rw [Gm,decide_eq_true (by omega:(k:Int)<(most:Int)),cond_true,A5 (h k x hx)];rw [A5 (show apd 8 (p.take k) [x]=some (p.take k++[x]) by unfold apd;rw [if_pos ⟨by rw [List.length_take,List.length_singleton];omega,by rw [List.length_take,List.length_singleton];omega⟩])];rw [A5 (show ck ((k:Int)+1)=some ((k+1:Nat):Int) by unfold ck;rw [if_pos ⟨by omega,by omega⟩,Int.natCast_add];rfl)];have e:p.take k++[x]=p.take (k+1):=by rw [List.take_add_one,hx];rfl
   rw [e];exact Sa hl hm h F (k+1) (by omega) (by omega)
  ·have hk2:k=most:=by omega
   subst hk2;rw [Gm,decide_eq_false (by omega:¬(k:Int)<(k:Int)),cond_false,←hl,List.take_length]
theorem Vs {a b:List api_Span} (ha:0<a.length∧a.length≤100) (hb:0<b.length∧b.length≤100) (has:∀s∈a,okS s) (hbs:∀s∈b,okS s) {most:Nat} (hmo:0<most∧most≤100) {F:Nat} (hF:1000000000000≤F) (hls:Ci F a b (most:Int)=some 0) {gate:Nat} (hg:gate<most) {power:Int} (hp:0≤power∧power≤1073741824) :
  (∃p,Bc F a b (most:Int) (gate:Int) power=some (p,0)∧PF a b most (gate:Int) ⟨power,power⟩ p)∨(Bc F a b (most:Int) (gate:Int) power=some ([],14)∧∀p,¬PF a b most (gate:Int) ⟨power,power⟩ p):=by
 have head:Bc F a b (most:Int) (gate:Int) power=(Hc F a b (most:Int) (gate:Int) ⟨power,power⟩).bind fun t=>bif !t.2 then some ([],14) else (Gm (most:Int) t.1 F 0 []).bind fun out=>some (out,0):=by
  unfold Bc;rw [A5 hls,show ((0:Int) != 0)=false from rfl,cond_false,decide_eq_false (by omega:¬(gate:Int)<0),cond_false,decide_eq_false (by omega:¬(gate:Int)≥(most:Int)),cond_false,decide_eq_false (by omega:¬power<0),cond_false,decide_eq_false (by omega:¬power>1073741824),cond_false]
 obtain ⟨t,is,h1,h2,h3,h4,h5,h6,h7⟩:=Rz ha hb has hbs hmo.2 (gate:=(gate:Int)) (power:=⟨power,power⟩) ⟨hp.1,Int.le_refl _,hp.2⟩ hF;rw [A5 h1] at head
 cases is with
 | true =>
  obtain ⟨f,c1,c2⟩:=h6 rfl;obtain ⟨p,f2,rfl,c3⟩:=P7 ha.1 hb.1 c1;left;refine ⟨p,?_,c3⟩;rw [head];show ((Gm (most:Int) t F 0 []).bind _)=_;have hpw:=Sa (t:=t) c3.len (by omega) (fun r x hx=>Ql c3.len h2 h3 c2 hx (by
   have:=c3.gb r x hx;have k:=Xu (gate:=(gate:Int)) (power:=⟨power,power⟩) ⟨hp.1,Int.le_refl _,hp.2⟩ r;have:=k.1;have:=k.2.1;have:=k.2.2;omega)) F 0 (Nat.zero_le _) (by omega)
  rw [List.take_zero] at hpw;rw [show (0:Int)=((0:Nat):Int) from rfl,A5 hpw]
 | false =>
  right;refine ⟨head.trans rfl,fun p hp'=>h7 rfl _ (P1 ha.1 hb.1 hp')⟩
end Go.Proofs.Ytbhjgebjojdohaa
namespace Go.Proofs.Ytbhjgebjojdohaa
open Go Go.RowKit Go.Eng
set_option maxRecDepth 10000
set_option linter.unusedVariables false
set_option linter.unusedSimpArgs false
theorem Ui {Q:List prP} {e:Nat} {p:prP} (hp:Q[e]? = some p) {a:Int} (h:exc (flatP 0 Q) (2*(e:Int)) a):a=2*(e:Int)∨a=2*(e:Int)+1:=by
 have q:=Bx (k:=0) hp;rw [Nat.zero_add] at q;rcases h.2 with h|⟨y,hy,h⟩
 ·exact .inl h
 ·right;rw [show 2*(e:Int)=((2*e:Nat):Int) by omega,getI_nat,q.1] at hy
  cases hy
  exact h
theorem Km {Q:List prP} {e:Nat} {p:prP} (hp:Q[e]? = some p):getI (flatP 0 Q) (2*(e:Int))=some ⟨p.v,p.r,2*(e:Int)+1⟩∧getI (flatP 0 Q) (2*(e:Int)+1)=some ⟨p.u,p.c,2*(e:Int)⟩:=by
 have q:=Bx (k:=0) hp;rw [Nat.zero_add] at q;exact ⟨(congrArg (getI (flatP 0 Q)) (by omega:2*(e:Int)=((2*e:Nat):Int))).trans (getI_nat.trans q.1),(congrArg (getI (flatP 0 Q)) (by omega:2*(e:Int)+1=((2*e+1:Nat):Int))).trans (getI_nat.trans q.2)⟩
theorem A4d {n:Nat} {e0 e1:Int} (h0:0≤e0∧e0<n) (h1:0≤e1∧e1<n) (hne:e0≠e1) (hn:n≤1000) {M:List cnP} (hk:∀c∈M,okC n e0 e1 c) {f:List Int} (hf:Circ M f) {fr:List (List Int)} (hfr:FR n fr (flatP 0 (rsP e0 e1 M f))) {e:Nat} {p:prP} (hp:(rsP e0 e1 M f)[e]? = some p) {F:Nat} (hF:1000000000000≤F)
  {s d most:Int} (hs:0≤s∧s<n) (hd:0≤d∧d<n) (hm:0≤most∧most≤1073741824) :
  ∃(q:Int×List arcP) (R:List prP),Gd F fr s d most (2*(e:Int)) F 0 (flatP 0 (rsP e0 e1 M f))=some q∧q.2=flatP 0 R∧R[e]? = some p∧0≤q.1∧q.1≤most∧Sm (netQ e0 e1 M) R∧NN R∧FR n fr q.2∧(∀φ,WQ φ R=WQ φ (rsP e0 e1 M f)+q.1*(φ s-φ d)) ∧
   (q.1<most→∃S:Int→Bool,S s=true∧S d=false∧∀f2,Circ M f2→∀p2,(rsP e0 e1 M f2)[e]? = some p2→WQ (ind S) (rsP e0 e1 M f2)-(p2.r*ind S p.v+p2.c*ind S p.u)≤WQ (ind S) R-(p.r*ind S p.v+p.c*ind S p.u)):=by
 obtain ⟨s1,s2,s3⟩:=M8 hk hf.bd;have bnd:∀q∈rsP e0 e1 M f,(0≤q.u∧q.u<n)∧(0≤q.v∧q.v<n)∧0≤q.r∧0≤q.c∧q.r+q.c≤1073741824:=fun q hq=>by
  obtain ⟨i,hi⟩:=List.mem_iff_getElem?.1 hq;obtain ⟨q0,g1,g2,g3,g4⟩:=s1.symm.get hi;have b:=Tb h0 h1 hk q0 (List.mem_of_getElem? g1);have nn:=s2 q hq;exact ⟨by rw [←g2];exact b.1,by rw [←g3];exact b.2.1,nn.1,nn.2,by omega⟩
 have pat:=Km hp;obtain ⟨q,c1,c2⟩:=Tj (C:=1073741824) (most:=most) (but:=2*(e:Int)) (u:=s) (v:=d) (by omega) (by omega) (by omega) hs hd (F:=F) (by omega) F 0 _ (Lp bnd) hfr (.inr ⟨_,pat.1⟩) (Int.le_refl _) (by omega);obtain ⟨R,r1,r2,r3,r4⟩:=V2 c2;have hRe:R[e]? = some p:=by
  obtain ⟨p',g1,g2,g3,g4⟩:=r2.get hp;have pat2:=Km g1;have k1:=c2.keep (2*(e:Int)) ⟨by omega,.inl rfl⟩;have k2:=c2.keep (2*(e:Int)+1) ⟨by omega,.inr ⟨_,pat.1,rfl⟩⟩;rw [r1,pat2.1,pat.1] at k1;rw [r1,pat2.2,pat.2] at k2;simp only [Option.some.injEq,arcP.mk.injEq] at k1 k2;rw [g1];rcases p with ⟨pu,pv,pr,pc⟩
  rcases p' with ⟨qu,qv,qr,qc⟩
  dsimp only at *;rw [g2,g3,k1.2.1,k2.2.1]
 refine ⟨q,R,c1,r1,hRe,c2.ge,c2.le hm.1,s1.tr r2,r3,Pd c2.top hfr,fun φ=>by rw [r4 φ,Int.sub_zero],fun hlt=>?_⟩;obtain ⟨S,d1,d2,d3⟩:=c2.cut hlt;rw [r1] at d3;refine ⟨S,d1,d2,fun f2 hf2 p2 hp2=>?_⟩;obtain ⟨t1,t2,t3⟩:=M8 hk hf2.bd;have hpp:=(s1.symm.tr t1).at_ e p p2 hp hp2;have sm2:Sm R (rsP e0 e1 M f2):=r2.symm.tr (s1.symm.tr t1);have hz:=Sw (S:=S) (Q:=R.set e ⟨p.u,p.v,0,0⟩) (R:=(rsP e0 e1 M f2).set e ⟨p.u,p.v,0,0⟩) ⟨by rw [List.length_set,List.length_set,sm2.len],fun i x y hx hy=>?_⟩ (fun x hx=>?_) (fun x hx=>?_)
 ·rw [Mg _ hp2,Mg _ hRe] at hz;dsimp only at hz;rw [hpp.1,hpp.2.1] at hz;simp only [Int.zero_mul,Int.add_zero] at hz;exact hz
 ·by_cases ei:e=i
  ·subst ei;rw [List.getElem?_set_self (List.getElem?_eq_some_iff.1 hRe).1] at hx;rw [List.getElem?_set_self (List.getElem?_eq_some_iff.1 hp2).1] at hy
   cases hx;cases hy
   exact ⟨rfl,rfl,rfl⟩
  ·rw [List.getElem?_set_ne ei] at hx hy;exact sm2.at_ i x y hx hy
 ·rcases List.mem_or_eq_of_mem_set hx with hx|rfl
  ·exact t2 x hx
  ·exact ⟨Int.le_refl _,Int.le_refl _⟩
 ·obtain ⟨i,hi⟩:=List.mem_iff_getElem?.1 hx
  by_cases ei:e=i
  ·subst ei;rw [List.getElem?_set_self (List.getElem?_eq_some_iff.1 hRe).1] at hi
   cases hi
   exact ⟨fun _ _=>rfl,fun _ _=>rfl⟩
  ·rw [List.getElem?_set_ne ei] at hi;exact Ru d3 hi (fun h=>by rcases Ui hp h with h|h<;>omega) (fun h=>by rcases Ui hp h with h|h<;>omega)
theorem Um {n:Nat} {e0 e1:Int} (hne:e0≠e1) {M:List cnP} (hk:∀c∈M,okC n e0 e1 c) {f:List Int} (hf:Circ M f) {R:List prP} (hS:Sm (netQ e0 e1 M) R) (hN:NN R) (hw:∀φ,WQ φ R=WQ φ (rsP e0 e1 M f)):∃f2,Circ M f2∧R=rsP e0 e1 M f2:=by
 obtain ⟨s1,s2,s3⟩:=M8 hk hf.bd;obtain ⟨i1,i2,i3⟩:=Qs hne hk s1 s2;obtain ⟨j1,j2,j3⟩:=Qs hne hk hS hN;have full:∀(M:List cnP) (f:List Int),(∀c∈M,okC n e0 e1 c)→bdF M f→WQ (at1 e0) (rsP e0 e1 M f)=sumLo M∧WQ (at1 e1) (rsP e0 e1 M f)=0:=by
  intro M
  induction M with
  | nil=>intro f _ h;cases f with|nil=>exact ⟨rfl,rfl⟩|cons=>exact h.elim
  | cons c M ih =>
   intro f hk h
   cases f with
   | nil=>exact h.elim
   | cons x f =>
    obtain ⟨a1,a2⟩:=ih f (fun x hx=>hk x (List.mem_cons_of_mem _ hx)) h.2.2;have k:=hk c (List.mem_cons_self ..);have:=k.lo;rw [rsP,Fa]
    by_cases hp:0<c.lo
    ·rw [if_pos hp,List.cons_append,List.cons_append,List.nil_append,Ah,Ah,Ah,Ah,Ah,Ah];dsimp only;rw [As k.u0,As k.u1,As k.v0,As k.v1,Fi,Fi,As hne,As hne.symm,a1,a2];omega
    ·rw [if_neg hp,List.nil_append,Ah,Ah];dsimp only;rw [As k.u0,As k.u1,As k.v0,As k.v1,a1,a2];omega
 obtain ⟨w1,w2⟩:=full M f hk hf.bd;obtain ⟨f2,q1,q2⟩:=j3 (by rw [hw,w1]) (by rw [hw,w2]);refine ⟨f2,⟨q2,fun φ=>?_⟩,q1⟩;have e1:=(M8 hk q2).2.2 φ;have e2:=s3 φ;have e3:=hw φ;rw [hf.cv] at e2;rw [q1] at e3;omega
end Go.Proofs.Ytbhjgebjojdohaa
namespace Go.Proofs.Ytbhjgebjojdohaa
open Go Go.RowKit Go.Eng
set_option maxRecDepth 10000
set_option linter.unusedVariables false
set_option linter.unusedSimpArgs false
theorem Ms (d1 d2:Int):∀{R:List prP} {k e:Nat} {p:prP},R[e]? = some p→((flatP k R).set (2*e) ⟨p.v,d1,2*((k+e:Nat):Int)+1⟩).set (2*e+1) ⟨p.u,d2,2*((k+e:Nat):Int)⟩=flatP k (R.set e ⟨p.u,p.v,d1,d2⟩)
 | [],_,_,_,h=>by simp at h
 | q::R,k,0,p,h=>by simp at h;subst h;rfl
 | q::R,k,e+1,p,h=>by
  simp only [List.getElem?_cons_succ] at h;have ih:=Ms d1 d2 (k:=k+1) h;rw [List.set_cons_succ,flatP,flatP,←ih,show 2*(e+1)=2*e+1+1 by omega,List.set_cons_succ,List.set_cons_succ,List.set_cons_succ,List.set_cons_succ,show k+(e+1)=k+1+e by omega]
theorem V0 {R:List prP} {e:Nat} {p:prP} (hp:R[e]? = some p) (d1 d2:Int):∃A1,B7 (flatP 0 R) (2*(e:Int)) ⟨p.v,d1,2*(e:Int)+1⟩=some A1∧getI A1 (2*(e:Int)+1)=some ⟨p.u,p.c,2*(e:Int)⟩∧B7 A1 (2*(e:Int)+1) ⟨p.u,d2,2*(e:Int)⟩=some (flatP 0 (R.set e ⟨p.u,p.v,d1,d2⟩)):=by
 have hl:=(List.getElem?_eq_some_iff.1 hp).1;have q:=Bx (k:=0) hp;rw [Nat.zero_add] at q;have hfl:=C8 R 0;refine ⟨(flatP 0 R).set (2*e) ⟨p.v,d1,2*(e:Int)+1⟩,?_,?_,?_⟩
 ·unfold B7;rw [if_pos ⟨by omega,by omega⟩,show (2*(e:Int)).toNat=2*e by omega]
 ·rw [show 2*(e:Int)+1=((2*e+1:Nat):Int) by omega,getI_nat,List.getElem?_set_ne (by omega)];exact q.2
 ·have f2:=Ms d1 d2 (k:=0) hp;rw [Nat.zero_add] at f2;unfold B7;rw [if_pos ⟨by omega,by rw [List.length_set];omega⟩,show (2*(e:Int)+1).toNat=2*e+1 by omega,f2]
theorem ckJ {x:Int} (h:-1000000000000000≤x∧x≤1000000000000000):ck x=some x:=by unfold ck;rw [if_pos ⟨by omega,by omega⟩]
def K5 (a b:List api_Span) (most:Nat) (r:Nat) (s:api_Span):Prop:=(∃p,PF a b most (-1) ⟨0,0⟩ p∧p[r]? = some s.Hi)∧(∃p,PF a b most (-1) ⟨0,0⟩ p∧p[r]? = some s.Lo)∧∀p,PF a b most (-1) ⟨0,0⟩ p→∀x,p[r]? = some x→s.Lo≤x∧x≤s.Hi
theorem Jv (r:Nat):gS (-1) ⟨0,0⟩ r=⟨0,1073741824⟩:=by
 unfold gS;rw [show ((r:Int) == -1)=false by simp];rfl
section
variable {a b:List api_Span} {most:Nat} {F:Nat} {fr:List (List Int)}
theorem Xr (ha:0<a.length∧a.length≤100) (hb:0<b.length∧b.length≤100) (hF:1000000000000≤F) (hk:∀c∈Eb a b most (-1) ⟨0,0⟩,okC (a.length+b.length+3) ((a.length:Int)+b.length+1) ((a.length:Int)+b.length+2) c) {f:List Int} (hf:Circ (Eb a b most (-1) ⟨0,0⟩) f)
  (hfr:FR (a.length+b.length+3) fr (flatP 0 (rsP ((a.length:Int)+b.length+1) ((a.length:Int)+b.length+2) (Eb a b most (-1) ⟨0,0⟩) f))) {r:Nat} (hr:r<most) (up:Bool) :
  ∃(e:Nat) (p:prP) (q:Int×List arcP) (R:List prP),e=(netQ ((a.length:Int)+b.length+1) ((a.length:Int)+b.length+2) (gM a.length b.length (-1) ⟨0,0⟩ r)).length∧(rsP ((a.length:Int)+b.length+1) ((a.length:Int)+b.length+2) (Eb a b most (-1) ⟨0,0⟩) f)[e]? = some p ∧
   Gd F fr (bif up then p.v else p.u) (bif up then p.u else p.v) (bif up then p.r else p.c) (2*(e:Int)) F 0 (flatP 0 (rsP ((a.length:Int)+b.length+1) ((a.length:Int)+b.length+2) (Eb a b most (-1) ⟨0,0⟩) f))=some q∧q.2=flatP 0 R∧R[e]? = some p∧FR (a.length+b.length+3) fr q.2 ∧
   (0≤p.r∧p.r≤1073741824)∧(0≤p.c∧p.c≤1073741824)∧0≤q.1∧q.1≤1073741824∧∃f2,Circ (Eb a b most (-1) ⟨0,0⟩) f2∧R.set e ⟨p.u,p.v,bif up then p.r-q.1 else p.r+q.1,bif up then p.c+q.1 else p.c-q.1⟩=rsP ((a.length:Int)+b.length+1) ((a.length:Int)+b.length+2) (Eb a b most (-1) ⟨0,0⟩) f2 ∧
    ∃p2 f3 x,f2=p2++f3∧PF a b most (-1) ⟨0,0⟩ p2∧p2[r]? = some x∧∀p3,PF a b most (-1) ⟨0,0⟩ p3→∀y,p3[r]? = some y→bif up then y≤x else x≤y:=by
 obtain ⟨M,hM⟩:∃M,M=Eb a b most (-1) ⟨0,0⟩:=⟨_,rfl⟩;obtain ⟨e0,he0⟩:∃e0:Int,e0=(a.length:Int)+b.length+1:=⟨_,rfl⟩;obtain ⟨e1,he1⟩:∃e1:Int,e1=(a.length:Int)+b.length+2:=⟨_,rfl⟩;obtain ⟨p0,f0,rfl,hp0⟩:=P7 ha.1 hb.1 hf;obtain ⟨x0,hx0⟩:∃x,p0[r]? = some x:=⟨_,List.getElem?_eq_getElem (by rw [hp0.len];exact hr)⟩;have g0:=P3 (a:=a) (b:=b) (gate:=-1) (power:=⟨0,0⟩) (f2:=f0) (e0:=e0) (e1:=e1) hp0.len hx0;have b0:=hp0.gb r x0 hx0;rw [Jv] at g0 b0;have hmu:=Nat.mod_lt r ha.1;have hmv:=Nat.mod_lt r hb.1;rw [←he0,←he1] at hk hfr ⊢;generalize hee:(netQ e0 e1 (gM a.length b.length (-1) ⟨0,0⟩ r)).length=e at g0 ⊢;rw [←hM] at hk hf hfr g0 ⊢;have fin:∀(R:List prP) (q:Int) (d1 d2:Int),R[e]? = some ⟨((r%a.length:Nat):Int),((a.length+r%b.length:Nat):Int),1073741824-x0,x0-0⟩→Sm (netQ e0 e1 M) R→NN R→0≤d1→0≤d2→d1+d2=1073741824→(∀φ,WQ φ R=WQ φ (rsP e0 e1 M (p0++f0))+(1073741824-x0-d1)*(φ ((a.length+r%b.length:Nat):Int)-φ ((r%a.length:Nat):Int))) →
   ∃f2,Circ M f2∧R.set e ⟨((r%a.length:Nat):Int),((a.length+r%b.length:Nat):Int),d1,d2⟩=rsP e0 e1 M f2∧∃p2 f3,f2=p2++f3∧PF a b most (-1) ⟨0,0⟩ p2∧p2[r]? = some d2:=by
  intro R q d1 d2 hRe hS hN h1 h2 h3 hw;have hl:=(List.getElem?_eq_some_iff.1 hRe).1;obtain ⟨f2,k1,k2⟩:=Um (e0:=e0) (e1:=e1) (by omega) hk hf (R:=R.set e ⟨((r%a.length:Nat):Int),((a.length+r%b.length:Nat):Int),d1,d2⟩) ⟨by rw [List.length_set,hS.len],fun i u v hu hv=>by
   by_cases ei:e=i
   ·subst ei;rw [List.getElem?_set_self hl] at hv
    cases hv
    have:=hS.at_ e u _ hu hRe;dsimp only at this ⊢;exact ⟨this.1,this.2.1,by omega⟩
   ·rw [List.getElem?_set_ne ei] at hv;exact hS.at_ i u v hu hv⟩ (fun u hu=>by
   rcases List.mem_or_eq_of_mem_set hu with hu|rfl
   ·exact hN u hu
   ·exact ⟨h1,h2⟩) (fun φ=>by
   rw [Mg φ hRe,hw];dsimp only;have t1:(1073741824-x0-d1)*(φ ((a.length+r%b.length:Nat):Int)-φ ((r%a.length:Nat):Int))=(1073741824-x0-d1)*φ ((a.length+r%b.length:Nat):Int)-(1073741824-x0-d1)*φ ((r%a.length:Nat):Int):=Int.mul_sub _ _ _;have t2:(1073741824-x0-d1)*φ ((a.length+r%b.length:Nat):Int)=(1073741824-x0)*φ ((a.length+r%b.length:Nat):Int)-d1*φ ((a.length+r%b.length:Nat):Int):=Int.sub_mul _ _ _;have t3:(x0-0)*φ ((r%a.length:Nat):Int)+(1073741824-x0-d1)*φ ((r%a.length:Nat):Int)=d2*φ ((r%a.length:Nat):Int):=by rw [←Int.add_mul];congr 1;omega
   omega)
  rw [hM] at k1;obtain ⟨p2,f3,rfl,k3⟩:=P7 ha.1 hb.1 k1;obtain ⟨x2,hx2⟩:∃x,p2[r]? = some x:=⟨_,List.getElem?_eq_getElem (by rw [k3.len];exact hr)⟩;have g2:=P3 (a:=a) (b:=b) (gate:=-1) (power:=⟨0,0⟩) (f2:=f3) (e0:=e0) (e1:=e1) k3.len hx2;rw [hee,←hM,←k2,List.getElem?_set_self hl,Jv] at g2;have e2:=Option.some.inj g2;rw [prP.mk.injEq] at e2;have hd2:d2=x2:=by
   have e3:=e2.2.2.2;dsimp only at e3;omega
  rw [hM];exact ⟨_,k1,by rw [←hM];exact k2,p2,f3,rfl,k3,by rw [hx2,hd2]⟩
 have wall:∀(f2:List Int),Circ M f2→∀φ,WQ φ (rsP e0 e1 M f2)=WQ φ (rsP e0 e1 M (p0++f0)):=fun f2 h2 φ=>by
  have e1':=(M8 hk h2.bd).2.2 φ;have e2':=(M8 hk hf.bd).2.2 φ;rw [h2.cv] at e1';rw [hf.cv] at e2';omega
 have third:∀p3,PF a b most (-1) ⟨0,0⟩ p3→∀y,p3[r]? = some y→∃f3,Circ M f3∧(rsP e0 e1 M f3)[e]? = some ⟨((r%a.length:Nat):Int),((a.length+r%b.length:Nat):Int),1073741824-y,y-0⟩∧0≤y∧y≤1073741824:=fun p3 h3 y hy=>by
  have c3:=P1 ha.1 hb.1 h3;rw [List.append_assoc] at c3;have g3:=P3 (a:=a) (b:=b) (gate:=-1) (power:=⟨0,0⟩) (f2:=tab (fun i=>sumAt a.length i p3) 0 a.length++tab (fun i=>sumAt b.length i p3) 0 b.length) (e0:=e0) (e1:=e1) h3.len hy;rw [hee,Jv] at g3;have b3:=h3.gb r y hy;rw [Jv] at b3;rw [hM];exact ⟨_,c3,g3,b3⟩
 dsimp only at b0
 cases up with
 | true =>
  obtain ⟨q,R,c1,c2,c3,c4,c5,c6,c7,c8,c9,c10⟩:=A4d (by omega) (by omega) (by omega) (by omega) hk hf hfr g0 hF (s:=((a.length+r%b.length:Nat):Int)) (d:=((r%a.length:Nat):Int)) (most:=1073741824-x0) (by omega) (by omega) (by omega);obtain ⟨f2,k1,k2,p2,f3,k3,k4,k5⟩:=fin R q.1 (1073741824-x0-q.1) (x0-0+q.1) c3 c6 c7 (by omega) (by omega) (by omega) (fun φ=>by rw [c9 φ];congr 2;omega);refine ⟨e,_,q,R,rfl,g0,c1,c2,c3,c8,by dsimp only;omega,by dsimp only;omega,c4,by omega,f2,k1,k2,p2,f3,_,k3,k4,k5,fun p3 h3 y hy=>?_⟩;show y≤x0-0+q.1;obtain ⟨f4,m1,m2,m3⟩:=third p3 h3 y hy
  by_cases hlt:q.1<1073741824-x0
  ·obtain ⟨S,z1,z2,z3⟩:=c10 hlt;have z:=z3 f4 m1 _ m2;dsimp only at z;rw [wall f4 m1,c9,show ind S ((a.length+r%b.length:Nat):Int)=1 from if_pos z1,show ind S ((r%a.length:Nat):Int)=0 from if_neg (by rw [z2];simp)] at z;omega
  ·omega
 | false =>
  obtain ⟨q,R,c1,c2,c3,c4,c5,c6,c7,c8,c9,c10⟩:=A4d (by omega) (by omega) (by omega) (by omega) hk hf hfr g0 hF (s:=((r%a.length:Nat):Int)) (d:=((a.length+r%b.length:Nat):Int)) (most:=x0-0) (by omega) (by omega) (by omega);obtain ⟨f2,k1,k2,p2,f3,k3,k4,k5⟩:=fin R q.1 (1073741824-x0+q.1) (x0-0-q.1) c3 c6 c7 (by omega) (by omega) (by omega) (fun φ=>by
   rw [c9 φ,show 1073741824-x0-(1073741824-x0+q.1)=- q.1 by omega,Int.neg_mul,←Int.mul_neg];congr 2;omega)
  refine ⟨e,_,q,R,rfl,g0,c1,c2,c3,c8,by dsimp only;omega,by dsimp only;omega,c4,by omega,f2,k1,k2,p2,f3,_,k3,k4,k5,fun p3 h3 y hy=>?_⟩;show x0-0-q.1≤y;obtain ⟨f4,m1,m2,m3⟩:=third p3 h3 y hy
  by_cases hlt:q.1<x0-0
  ·obtain ⟨S,z1,z2,z3⟩:=c10 hlt;have z:=z3 f4 m1 _ m2;dsimp only at z;rw [wall f4 m1,c9,show ind S ((r%a.length:Nat):Int)=1 from if_pos z1,show ind S ((a.length+r%b.length:Nat):Int)=0 from if_neg (by rw [z2];simp)] at z;omega
  ·omega
end
end Go.Proofs.Ytbhjgebjojdohaa
namespace Go.Proofs.Ytbhjgebjojdohaa
open Go Go.RowKit Go.Eng
set_option maxRecDepth 10000
set_option linter.unusedVariables false
set_option linter.unusedSimpArgs false
theorem Vp {R:List prP} {e:Nat} {p:prP} (hp:R[e]? = some p) (d1 d2:Int):Top (flatP 0 R) (flatP 0 (R.set e ⟨p.u,p.v,d1,d2⟩)):=by
 have q:=Bx (k:=0) hp;have f2:=Ms d1 d2 (k:=0) hp;rw [←f2];have q2:((flatP 0 R).set (2*e) ⟨p.v,d1,2*((0+e:Nat):Int)+1⟩)[2*e+1]? = some ⟨p.u,p.c,2*((0+e:Nat):Int)⟩:=by
  rw [List.getElem?_set_ne (show 2*e≠2*e+1 by omega)];exact q.2
 exact (Top.set (r:=d1) q.1).tr (Top.set (r:=d2) q2)
theorem Sf {a b:List api_Span} {most:Nat} {F:Nat} (hmo:most≤100) (ha:0<a.length∧a.length≤100) (hb:0<b.length∧b.length≤100) (hF:1000000000000≤F) (hk:∀c∈Eb a b most (-1) ⟨0,0⟩,okC (a.length+b.length+3) ((a.length:Int)+b.length+1) ((a.length:Int)+b.length+2) c) :
  ∀(k r:Nat) (f:List Int) (t:tripP) (out:List api_Span),most-r=k→r≤most→out.length=r→Circ (Eb a b most (-1) ⟨0,0⟩) f→t.net.arcs=flatP 0 (rsP ((a.length:Int)+b.length+1) ((a.length:Int)+b.length+2) (Eb a b most (-1) ⟨0,0⟩) f)→FR (a.length+b.length+3) t.net.fr t.net.arcs →
   t.gates=gN a.length b.length ((a.length:Int)+b.length+1) ((a.length:Int)+b.length+2) (-1) ⟨0,0⟩ most→t.lows=gL (-1) ⟨0,0⟩ most →
   ∃L,Jl F (t.gates.drop r) (r:Int) t out=some (out++L)∧L.length=k∧∀i s,L[i]? = some s→K5 a b most (r+i) s
 | 0,r,f,t,out,hk0,hr,hol,hf,hA,hfr,hg,hw=>by
  have:t.gates.length=most:=by rw [hg];unfold gN;rw [List.length_map,List.length_range]
  refine ⟨[],?_,rfl,fun i s h=>by simp at h⟩;rw [List.drop_eq_nil_of_le (by omega),List.append_nil];rfl
 | k+1,r,f,t,out,hk0,hr,hol,hf,hA,hfr,hg,hw=>by
  have hrm:r<most:=by omega
  rw [hA] at hfr;obtain ⟨e,p,q1,R1,he,hp,c1,c2,c3,c4,n1,n2,n3,n4,f2,hf2,hR2,p2,f3,x2,hx2,hp2,hpx,hmax⟩:=Xr ha hb hF hk hf hfr hrm true;simp only [cond_true] at c1 hR2 hmax;have hfr2:FR (a.length+b.length+3) t.net.fr (flatP 0 (rsP ((a.length:Int)+b.length+1) ((a.length:Int)+b.length+2) (Eb a b most (-1) ⟨0,0⟩) f2)):=by
   refine Pd ?_ c4;rw [c2,←hR2];exact Vp c3 _ _
  obtain ⟨e',p',q2,R3,he',hp',d1,d2,d3,d4,m1,m2,m3,m4,f4,hf4,hR4,p4,f5,x4,hx4,hp4,hpy,hmin⟩:=Xr ha hb hF hk hf2 hfr2 hrm false;simp only [cond_false] at d1 hR4 hmin;rw [←he] at he';subst he';have hl3:=(List.getElem?_eq_some_iff.1 c3).1;have hpe:p'=⟨p.u,p.v,p.r-q1.1,p.c+q1.1⟩:=by
   rw [←hR2,List.getElem?_set_self hl3] at hp';exact (Option.some.inj hp').symm
  have hfr4:FR (a.length+b.length+3) t.net.fr (flatP 0 (rsP ((a.length:Int)+b.length+1) ((a.length:Int)+b.length+2) (Eb a b most (-1) ⟨0,0⟩) f4)):=by
   refine Pd ?_ d4;rw [d2,←hR4];exact Vp d3 _ _
  have gg:getI t.gates (r:Int)=some (2*(e':Int)):=by
   rw [getI_nat,hg,he];unfold gN;rw [List.getElem?_map,List.getElem?_range hrm];rfl
  have hgl:r<t.gates.length:=by rw [hg];unfold gN;rw [List.length_map,List.length_range];exact hrm
  have hdr:t.gates.drop r=2*(e':Int)::t.gates.drop (r+1):=by
   rw [List.drop_eq_getElem_cons hgl]
   congr 1
   rw [getI_nat,List.getElem?_eq_getElem hgl] at gg;exact Option.some.inj gg
  have b2:=hp2.gb r x2 hpx;have b4:=hp4.gb r x4 hpy;rw [Jv] at b2 b4;dsimp only at b2 b4;have pw2:Hj { t with net:=⟨t.net.fr,flatP 0 (R1.set e' ⟨p.u,p.v,p.r-q1.1,p.c+q1.1⟩)⟩ } (r:Int)=some x2:=Ql (a:=a) (b:=b) (most:=most) (gate:=-1) (power:=⟨0,0⟩) (f2:=f3) (t:={ t with net:=⟨t.net.fr,flatP 0 (R1.set e' ⟨p.u,p.v,p.r-q1.1,p.c+q1.1⟩)⟩ }) hp2.len hg hw (by rw [←hx2,←hR2]) hpx (by omega);have pw4:Hj { t with net:=⟨t.net.fr,flatP 0 (R3.set e' ⟨p'.u,p'.v,p'.r+q2.1,p'.c-q2.1⟩)⟩ } (r:Int)=some x4:=Ql (a:=a) (b:=b) (most:=most) (gate:=-1) (power:=⟨0,0⟩) (f2:=f5) (t:={ t with net:=⟨t.net.fr,flatP 0 (R3.set e' ⟨p'.u,p'.v,p'.r+q2.1,p'.c-q2.1⟩)⟩ }) hp4.len hg hw (by rw [←hx4,←hR4]) hpy (by omega);obtain ⟨L,l1,l2,l3⟩:=Sf hmo ha hb hF hk k (r+1) f4 { t with net:=⟨t.net.fr,flatP 0 (R3.set e' ⟨p'.u,p'.v,p'.r+q2.1,p'.c-q2.1⟩)⟩ } (out++[⟨x4,x2⟩]) (by omega) (by omega) (by rw [List.length_append,List.length_singleton,hol]) hf4 (by rw [←hR4]) (by dsimp only;rw [hR4];exact hfr4) hg hw;refine ⟨⟨x4,x2⟩::L,?_,by rw [List.length_cons,l2],fun i s hs=>?_⟩
  ·obtain ⟨w1,w2⟩:=Km hp;obtain ⟨w3,w4⟩:=Km c3;obtain ⟨A1,s1,s2,s3⟩:=V0 c3 (p.r-q1.1) (p.c+q1.1);obtain ⟨w5,w6⟩:=Km hp';obtain ⟨w7,w8⟩:=Km d3;obtain ⟨A3,s5,s6,s7⟩:=V0 d3 (p'.r+q2.1) (p'.c-q2.1);have nb:((2*(e':Int)+1:Int)==2*(e':Int))=false:=by rw [beq_eq_false_iff_ne];omega
   rw [hdr,Jl,hA,A5 w1];dsimp only;rw [A5 w2];dsimp only;rw [A5 c1,c2,A5 w3];dsimp only;rw [A5 w4,nb,cond_false,A5 (ckJ (x:=p.r-q1.1) (by omega)),A5 (ckJ (x:=p.c+q1.1) (by omega)),A5 s1,A5 s2];dsimp only;rw [A5 s3,A5 pw2,hR2,A5 w5];dsimp only;rw [A5 w6];dsimp only;have d1':=d1;rw [hpe] at d1';rw [hpe];dsimp only at d1' ⊢;rw [A5 d1',d2,A5 w7];dsimp only;rw [A5 w8,nb,cond_false,A5 (ckJ (x:=p'.r+q2.1) (by omega)),A5 (ckJ (x:=p'.c-q2.1) (by omega)),A5 s5,A5 s6];dsimp only;rw [A5 s7,A5 pw4];rw [A5 (show apd 16 out [(⟨x4,x2⟩:api_Span)]=some (out++[⟨x4,x2⟩]) by unfold apd;rw [if_pos ⟨by rw [hol,List.length_singleton];omega,by rw [hol,List.length_singleton];omega⟩])];rw [List.append_assoc] at l1;rw [show (r:Int)+1=((r+1:Nat):Int) by omega];exact l1
  ·cases i with
   | zero =>
    simp at hs;subst hs;exact ⟨⟨p2,hp2,hpx⟩,⟨p4,hp4,hpy⟩,fun p3 h3 x hx=>⟨hmin p3 h3 x hx,hmax p3 h3 x hx⟩⟩
   | succ i =>
    have:=l3 i s (by simpa using hs);rw [show r+(i+1)=r+1+i by omega];exact this
theorem Zp {a b:List api_Span} (ha:0<a.length∧a.length≤100) (hb:0<b.length∧b.length≤100) (has:∀s∈a,okS s) (hbs:∀s∈b,okS s) {most:Nat} (hmo:0<most∧most≤100) {F:Nat} (hF:1000000000000≤F) (hls:Ci F a b (most:Int)=some 0) :
  (∃L,Cn F a b (most:Int)=some (L,0)∧L.length=most∧∀r s,L[r]? = some s→K5 a b most r s)∨(Cn F a b (most:Int)=some ([],14)∧∀p,¬PF a b most (-1) ⟨0,0⟩ p):=by
 obtain ⟨t,is,h1,h2,h3,h4,h5,h6,h7⟩:=Rz ha hb has hbs hmo.2 (gate:=-1) (power:=⟨0,0⟩) ⟨Int.le_refl _,Int.le_refl _,by decide⟩ hF;have head:Cn F a b (most:Int)=bif !is then some ([],14) else (Jl F t.gates 0 t []).bind fun out=>some (out,0):=by
  unfold Cn;rw [A5 hls,show ((0:Int) != 0)=false from rfl,cond_false,A5 h1]
 cases is with
 | true =>
  obtain ⟨f,c1,c2⟩:=h6 rfl;obtain ⟨L,l1,l2,l3⟩:=Sf hmo.2 ha hb hF h5 (most-0) 0 f t [] rfl (Nat.zero_le _) rfl c1 c2 h4 h2 h3;left;refine ⟨L,?_,by rw [l2];rfl,fun r s hs=>by have:=l3 r s hs;rw [Nat.zero_add] at this;exact this⟩;rw [List.drop_zero,show ((0:Nat):Int)=0 from rfl,List.nil_append] at l1;rw [head];show ((Jl F t.gates 0 t []).bind _)=_;rw [A5 l1]
 | false =>
  right;exact ⟨head.trans rfl,fun p hp=>h7 rfl _ (P1 ha.1 hb.1 hp)⟩
end Go.Proofs.Ytbhjgebjojdohaa
namespace Go.Proofs.Ytbhjgebjojdohaa
open Go Go.RowKit Go.Eng
set_option maxRecDepth 10000
set_option linter.unusedVariables false
set_option linter.unusedSimpArgs false
def U2 (F:Nat) (a b:List api_Span) (most:Nat):Prop:=∀(gate:Int) (power:api_Span),okS power→∃l is,Bp F a b (most:Int) gate power=some (l,is)∧(is=true→PF a b most gate power l)∧(is=false→∀p,¬PF a b most gate power p)
theorem A3z (r:Nat) (s:api_Span):gS (r:Int) s r=s:=by unfold gS;rw [show ((r:Int)==(r:Int))=true by simp];rfl
theorem A40 {r i:Nat} (h:i≠r) (s:api_Span):gS (r:Int) s i=⟨0,1073741824⟩:=by
 unfold gS;rw [show ((i:Int)==(r:Int))=false by rw [beq_eq_false_iff_ne];omega];rfl
theorem Le {a b:List api_Span} {most r:Nat} {x y:Int} (hx:0≤x) (hy:y≤1073741824) (p:List Int):PF a b most (r:Int) ⟨x,y⟩ p↔PF a b most (-1) ⟨0,0⟩ p∧∀z,p[r]? = some z→x≤z∧z≤y:=by
 constructor
 ·intro h;have h1:∀z,p[r]? = some z→x≤z∧z≤y:=fun z hz=>by
   have:=h.gb r z hz;rw [A3z] at this;exact this
  refine ⟨⟨h.len,fun i z hz=>?_,h.sa,h.sb⟩,h1⟩;rw [Jv]
  by_cases e:i=r
  ·subst e;have:=h1 z hz;exact ⟨by dsimp only;omega,by dsimp only;omega⟩
  ·have:=h.gb i z hz;rw [A40 e] at this;exact this
 ·rintro ⟨h,h1⟩;refine ⟨h.len,fun i z hz=>?_,h.sa,h.sb⟩
  by_cases e:i=r
  ·subst e;rw [A3z];exact h1 z hz
  ·have:=h.gb i z hz;rw [Jv] at this;rw [A40 e];exact this
theorem Nn {ψ:Nat→Int} (hψ:∀i,0≤ψ i):∀(p:List Int) (k:Nat),(∀x∈p,0≤x)→0≤D2 ψ k p
 | [],_,_=>Int.le_refl _
 | x::p,k,h=>by
  rw [D2];have:=Nn hψ p (k+1) fun y hy=>h y (List.mem_cons_of_mem _ hy);have:=Int.mul_nonneg (h x (List.mem_cons_self ..)) (hψ k);omega
theorem Xw {ψ:Nat→Int} (hψ:∀i,0≤ψ i):∀(p:List Int) (k r:Nat) (x:Int),(∀x∈p,0≤x)→p[r]? = some x→ψ (k+r)=1→x≤D2 ψ k p
 | [],_,_,_,_,h,_=>by simp at h
 | y::p,k,0,x,h,hx,h1=>by
  simp at hx;subst hx;rw [D2];have:=Nn hψ p (k+1) fun y hy=>h y (List.mem_cons_of_mem _ hy);rw [Nat.add_zero] at h1;rw [h1];omega
 | y::p,k,r+1,x,h,hx,h1=>by
  rw [D2];have:=Xw hψ p (k+1) r x (fun y hy=>h y (List.mem_cons_of_mem _ hy)) (by simpa using hx) (by rw [←h1];congr 1;omega);have:=Int.mul_nonneg (h y (List.mem_cons_self ..)) (hψ k);omega
theorem U1 {a b:List api_Span} {most:Nat} {p:List Int} (h:PF a b most (-1) ⟨0,0⟩ p):∀x∈p,0≤x∧x≤1073741824:=fun x hx=>by
 obtain ⟨i,hi⟩:=List.mem_iff_getElem?.1 hx;have:=h.gb i x hi;rw [Jv] at this;exact this
theorem A4f {a b:List api_Span} {most r:Nat} {p:List Int} (h:PF a b most (-1) ⟨0,0⟩ p) {x:Int} (hx:p[r]? = some x) {s t:api_Span} (hs:a[r%a.length]? = some s) (ht:b[r%b.length]? = some t):x≤s.Hi∧x≤t.Hi:=by
 have nn:=fun y hy=>(U1 h y hy).1;have g:∀n,x≤sumAt n (r%n) p:=fun n=>Xw (fun i=>by split<;>omega) p 0 r x nn hx (by rw [Nat.zero_add];exact if_pos rfl);exact ⟨Int.le_trans (g _) (h.sa _ _ hs).2,Int.le_trans (g _) (h.sb _ _ ht).2⟩
section
variable {a b:List api_Span} {most r:Nat} {F:Nat}
theorem A6a {x:Int} (h:0≤x) (hx:x≤10000000000):X9 x 2=some (x/2):=by
 unfold X9;rw [if_neg (by decide),Int.tdiv_eq_ediv_of_nonneg h,ckJ (by omega)]
theorem L4 (hP:U2 F a b most) (l0:List api_Span) (k2:Int→List api_Span→Option ((List api_Span)×Int)) (mx:Int):∀(G:Nat) (lo hi:Int),0≤lo→hi≤1073741824→(hi-lo).toNat<G→(∃p,PF a b most (-1) ⟨0,0⟩ p∧∃z,p[r]? = some z∧z≤hi)→(∀p,PF a b most (-1) ⟨0,0⟩ p→∀z,p[r]? = some z→lo≤z) →
  ∃m,Dh F a b (most:Int) (r:Int) l0 k2 mx G lo hi=Eh (r:Int) l0 k2 mx m∧(∃p,PF a b most (-1) ⟨0,0⟩ p∧p[r]? = some m)∧∀p,PF a b most (-1) ⟨0,0⟩ p→∀z,p[r]? = some z→m≤z
 | 0,_,_,_,_,h,_,_=>by omega
 | G+1,lo,hi,h0,h1,hG,⟨p,hp,z,hz,hzh⟩,hlo=>by
  have hlz:=hlo p hp z hz;rw [Dh,Fp]
  by_cases hlt:lo<hi
  ·rw [decide_eq_true hlt,cond_true,A5 (ckJ (x:=hi-lo) (by omega)),A5 (A6a (by omega) (by omega)),A5 (ckJ (x:=lo+(hi-lo)/2) (by omega))];obtain ⟨l,is,q1,q2,q3⟩:=hP (r:Int) ⟨0,lo+(hi-lo)/2⟩ ⟨Int.le_refl _,by dsimp only;omega,by dsimp only;omega⟩;rw [A5 q1]
   cases is with
   | true =>
    obtain ⟨g1,g2⟩:=(Le (Int.le_refl _) (by omega) l).1 (q2 rfl);have hr:r<l.length:=by rw [g1.len,←hp.len];exact (List.getElem?_eq_some_iff.1 hz).1
    exact L4 hP l0 k2 mx G lo (lo+(hi-lo)/2) h0 (by omega) (by omega) ⟨l,g1,l[r],List.getElem?_eq_getElem hr,(g2 _ (List.getElem?_eq_getElem hr)).2⟩ hlo
   | false =>
    dsimp only;rw [cond_false,A5 (ckJ (x:=lo+(hi-lo)/2+1) (by omega))];exact L4 hP l0 k2 mx G (lo+(hi-lo)/2+1) hi (by omega) h1 (by omega) ⟨p,hp,z,hz,hzh⟩ (fun p' hp' z' hz'=>by
     by_cases hc:z'≤lo+(hi-lo)/2
     ·exact absurd ((Le (Int.le_refl _) (by omega) p').2 ⟨hp',fun w hw=>by
       rw [hz'] at hw;cases hw
       exact ⟨(U1 hp' z' (List.mem_of_getElem? hz')).1,hc⟩⟩) (q3 rfl p')
     ·omega)
  ·rw [decide_eq_false hlt,cond_false];have:z=lo:=by omega
   subst this;exact ⟨z,rfl,⟨p,hp,hz⟩,hlo⟩
theorem Mz (hP:U2 F a b most) (l0:List api_Span) (k2:Int→List api_Span→Option ((List api_Span)×Int)) (y:(List Int)×Bool) (s t:api_Span) {top:Int} (htop:(if t.Hi<s.Hi then t.Hi else s.Hi)=top) (ht1:top≤1073741824) (hup:∀p,PF a b most (-1) ⟨0,0⟩ p→∀z,p[r]? = some z→z≤top):∀(G:Nat) (lo hi:Int),0≤lo→hi≤top→(hi-lo).toNat<G→(∃p,PF a b most (-1) ⟨0,0⟩ p∧∃z,p[r]? = some z∧lo≤z)→(∀p,PF a b most (-1) ⟨0,0⟩ p→∀z,p[r]? = some z→z≤hi) →
  ∃m,Di F a b (most:Int) (r:Int) l0 k2 y s t G lo hi=Eg F a b (most:Int) (r:Int) l0 k2 y m∧(∃p,PF a b most (-1) ⟨0,0⟩ p∧p[r]? = some m)∧∀p,PF a b most (-1) ⟨0,0⟩ p→∀z,p[r]? = some z→z≤m
 | 0,_,_,_,_,h,_,_=>by omega
 | G+1,lo,hi,h0,h1,hG,⟨p,hp,z,hz,hzl⟩,hhi=>by
  have hhz:=hhi p hp z hz;rw [Di,Fq,htop]
  by_cases hlt:lo<hi
  ·rw [decide_eq_true hlt,cond_true,A5 (ckJ (x:=hi-lo) (by omega)),A5 (A6a (by omega) (by omega)),A5 (ckJ (x:=hi-(hi-lo)/2) (by omega))];obtain ⟨l,is,q1,q2,q3⟩:=hP (r:Int) ⟨hi-(hi-lo)/2,top⟩ ⟨by dsimp only;omega,by dsimp only;omega,ht1⟩;rw [A5 q1]
   cases is with
   | true =>
    obtain ⟨g1,g2⟩:=(Le (by omega) ht1 l).1 (q2 rfl);have hr:r<l.length:=by rw [g1.len,←hp.len];exact (List.getElem?_eq_some_iff.1 hz).1
    exact Mz hP l0 k2 y s t htop ht1 hup G (hi-(hi-lo)/2) hi (by omega) h1 (by omega) ⟨l,g1,l[r],List.getElem?_eq_getElem hr,(g2 _ (List.getElem?_eq_getElem hr)).1⟩ hhi
   | false =>
    dsimp only;rw [cond_false,A5 (ckJ (x:=hi-(hi-lo)/2-1) (by omega))];exact Mz hP l0 k2 y s t htop ht1 hup G lo (hi-(hi-lo)/2-1) h0 (by omega) (by omega) ⟨p,hp,z,hz,hzl⟩ (fun p' hp' z' hz'=>by
     by_cases hc:hi-(hi-lo)/2≤z'
     ·exact absurd ((Le (by omega) ht1 p').2 ⟨hp',fun w hw=>by
       rw [hz'] at hw;cases hw
       exact ⟨hc,hup p' hp' z' hz'⟩⟩) (q3 rfl p')
     ·omega)
  ·rw [decide_eq_false hlt,cond_false];have:z=lo:=by omega
   subst this;exact ⟨z,rfl,⟨p,hp,hz⟩,fun p' hp' w hw=>by have:=hhi p' hp' w hw;omega⟩
end
end Go.Proofs.Ytbhjgebjojdohaa
namespace Go.Proofs.Ytbhjgebjojdohaa
open Go Go.RowKit Go.Eng
set_option maxRecDepth 10000
set_option linter.unusedVariables false
set_option linter.unusedSimpArgs false
theorem V3 {a b:List api_Span} {most F:Nat} (hmo:most≤100) (ha:0<a.length) (hb:0<b.length) (has:∀s∈a,okS s) (hbs:∀s∈b,okS s) (hF:1000000000000≤F) (hP:U2 F a b most) (hex:∃p,PF a b most (-1) ⟨0,0⟩ p):∀(k G r:Nat) (out:List api_Span),most-r=k→r≤most→k<G→out.length=r →
  ∃L,B8 F a b (most:Int) G (r:Int) out=some (out++L,0)∧L.length=k∧∀i s,L[i]? = some s→K5 a b most (r+i) s
 | 0,0,_,_,_,_,h,_=>by omega
 | 0,G+1,r,out,hk,hr,hG,hol=>by
  refine ⟨[],?_,rfl,fun i s h=>by simp at h⟩;rw [B8,Dg,decide_eq_false (by omega:¬(r:Int)<(most:Int)),cond_false,List.append_nil];rfl
 | k+1,0,_,_,_,_,h,_=>by omega
 | k+1,G+1,r,out,hk,hr,hG,hol=>by
  have hrm:r<most:=by omega
  obtain ⟨l,is,q1,q2,q3⟩:=hP (-1) ⟨0,0⟩ ⟨Int.le_refl _,Int.le_refl _,by decide⟩
  cases is with
  | false=>obtain ⟨p,hp⟩:=hex;exact absurd hp (q3 rfl p)
  | true =>
   have hl:=q2 rfl;obtain ⟨x,hx⟩:∃x,l[r]? = some x:=⟨_,List.getElem?_eq_getElem (by rw [hl.len];exact hrm)⟩;obtain ⟨s,hs⟩:∃s,a[r%a.length]? = some s:=⟨_,List.getElem?_eq_getElem (Nat.mod_lt r ha)⟩;obtain ⟨t,ht⟩:∃t,b[r%b.length]? = some t:=⟨_,List.getElem?_eq_getElem (Nat.mod_lt r hb)⟩;have os:=has s (List.mem_of_getElem? hs);have ot:=hbs t (List.mem_of_getElem? ht);have:=os.1;have:=os.2.1;have:=os.2.2;have:=ot.1;have:=ot.2.1;have:=ot.2.2;have nx:=U1 hl x (List.mem_of_getElem? hx);obtain ⟨top,htop⟩:∃top,(if t.Hi<s.Hi then t.Hi else s.Hi)=top:=⟨_,rfl⟩;have ht1:top≤1073741824:=by rw [←htop];split<;>omega
   have hup:∀p,PF a b most (-1) ⟨0,0⟩ p→∀z,p[r]? = some z→z≤top:=fun p hp z hz=>by
    have:=A4f hp hz hs ht;rw [←htop];split<;>omega
   obtain ⟨mx,a1,a2,a3⟩:=Mz (r:=r) hP out (B8 F a b (most:Int) G) (l,true) s t htop ht1 hup F x top nx.1 (Int.le_refl _) (by have:=hup l hl x hx;omega) ⟨l,hl,x,hx,Int.le_refl _⟩ hup;obtain ⟨mn,b1,b2,b3⟩:=L4 (r:=r) hP out (B8 F a b (most:Int) G) mx F 0 x (Int.le_refl _) nx.2 (by omega) ⟨l,hl,x,hx,Int.le_refl _⟩ (fun p hp z hz=>(U1 hp z (List.mem_of_getElem? hz)).1);obtain ⟨L,l1,l2,l3⟩:=V3 hmo ha hb has hbs hF hP hex k G (r+1) (out++[⟨mn,mx⟩]) (by omega) (by omega) (by omega) (by rw [List.length_append,List.length_singleton,hol]);refine ⟨⟨mn,mx⟩::L,?_,by rw [List.length_cons,l2],fun i s' hs'=>?_⟩
   ·rw [B8,Dg,decide_eq_true (by omega:(r:Int)<(most:Int)),cond_true,A5 q1];dsimp only;rw [Bool.not_true,cond_false];rw [A5 (show Gn (r:Int) ((a.length:Nat):Int)=some ((r%a.length:Nat):Int) by unfold Gn;rw [if_neg (by omega)];rfl)];rw [A5 (show getI a ((r%a.length:Nat):Int)=some s by rw [getI_nat];exact hs)];rw [A5 (show Gn (r:Int) ((b.length:Nat):Int)=some ((r%b.length:Nat):Int) by unfold Gn;rw [if_neg (by omega)];rfl)];rw [A5 (show getI b ((r%b.length:Nat):Int)=some t by rw [getI_nat];exact ht)];rw [A5 (show getI l (r:Int)=some x by rw [getI_nat];exact hx),htop,a1,Eg];dsimp only;rw [A5 (show getI l (r:Int)=some x by rw [getI_nat];exact hx),b1,Eh];rw [A5 (show apd 16 out [(⟨mn,mx⟩:api_Span)]=some (out++[⟨mn,mx⟩]) by unfold apd;rw [if_pos ⟨by rw [hol,List.length_singleton];omega,by rw [hol,List.length_singleton];omega⟩]),Fs];rw [A5 (show ck ((r:Int)+1)=some ((r+1:Nat):Int) by unfold ck;rw [if_pos ⟨by omega,by omega⟩,Int.natCast_add];rfl),l1,List.append_assoc];rfl
   ·cases i with
    | zero =>
     simp at hs';subst hs';exact ⟨a2,b2,fun p hp z hz=>⟨b3 p hp z hz,a3 p hp z hz⟩⟩
    | succ i =>
     have:=l3 i s' (by simpa using hs');rw [show r+(i+1)=r+1+i by omega];exact this
theorem V4 {a b:List api_Span} {most F:Nat} (hmo:0<most∧most≤100) (ha:0<a.length) (hb:0<b.length) (has:∀s∈a,okS s) (hbs:∀s∈b,okS s) (hF:1000000000000≤F) (hP:U2 F a b most) (hls:Cg F a b (most:Int)=some 0) :
  (∃L,C9 F a b (most:Int)=some (L,0)∧L.length=most∧∀r s,L[r]? = some s→K5 a b most r s)∨(C9 F a b (most:Int)=some ([],14)∧∀p,¬PF a b most (-1) ⟨0,0⟩ p):=by
 have head:C9 F a b (most:Int)=B8 F a b (most:Int) F 0 []:=by
  unfold C9;rw [A5 hls,show ((0:Int) != 0)=false from rfl,cond_false]
 obtain ⟨l,is,q1,q2,q3⟩:=hP (-1) ⟨0,0⟩ ⟨Int.le_refl _,Int.le_refl _,by decide⟩
 cases is with
 | true =>
  left;obtain ⟨L,l1,l2,l3⟩:=V3 hmo.2 ha hb has hbs hF hP ⟨l,q2 rfl⟩ (most-0) F 0 [] rfl (Nat.zero_le _) (by omega) rfl;rw [List.nil_append] at l1;exact ⟨L,head.trans l1,l2,fun r s hs=>by have:=l3 r s hs;rw [Nat.zero_add] at this;exact this⟩
 | false =>
  right;refine ⟨?_,q3 rfl⟩;rw [head];obtain ⟨G,rfl⟩:∃G,F=G+1:=⟨F-1,by omega⟩;rw [B8,Dg,decide_eq_true (by omega:(0:Int)<(most:Int)),cond_true,A5 q1];rfl
theorem A29 {a b:List api_Span} {most r:Nat} {s t:api_Span} (h:K5 a b most r s) (k:K5 a b most r t):s=t:=by
 obtain ⟨⟨p1,h1,e1⟩,⟨p2,h2,e2⟩,h3⟩:=h;obtain ⟨⟨q1,k1,g1⟩,⟨q2,k2,g2⟩,k3⟩:=k;have a1:=k3 p1 h1 _ e1;have a2:=k3 p2 h2 _ e2;have a3:=h3 q1 k1 _ g1;have a4:=h3 q2 k2 _ g2;rcases s with ⟨x,y⟩
 rcases t with ⟨z,w⟩
 dsimp only at *;rw [show x=z by omega,show y=w by omega]
theorem Zk {a b:List api_Span} {most:Nat} {L K:List api_Span} (hl:L.length=most) (kl:K.length=most) (h:∀r s,L[r]? = some s→K5 a b most r s) (k:∀r s,K[r]? = some s→K5 a b most r s):L=K:=by
 apply List.ext_getElem?;intro i
 by_cases hi:i<most
 ·rw [List.getElem?_eq_getElem (by omega),List.getElem?_eq_getElem (by omega)];exact congrArg some (A29 (h i _ (List.getElem?_eq_getElem (by omega))) (k i _ (List.getElem?_eq_getElem (by omega))))
 ·rw [List.getElem?_eq_none (by omega),List.getElem?_eq_none (by omega)]
end Go.Proofs.Ytbhjgebjojdohaa
namespace Go.Proofs.Ytbhjgebjojdohaa
open Go Go.RowKit Go.Eng
set_option maxRecDepth 10000
set_option linter.unusedVariables false
set_option linter.unusedSimpArgs false
theorem Nt (L:List api_Span) (hl:L.length≤1000000):∀(G i:Nat),i≤L.length→L.length-i<G→Df L L G (i:Int)=some true
 | 0,_,_,h=>by omega
 | G+1,i,hi,hG=>by
  rw [Df,Fo]
  by_cases hlt:i<L.length
  ·obtain ⟨x,hx⟩:∃x,L[i]? = some x:=⟨_,List.getElem?_eq_getElem hlt⟩;have g:getI L (i:Int)=some x:=by rw [getI_nat];exact hx
   rw [decide_eq_true (by omega:(i:Int)<((L.length:Nat):Int)),cond_true,A5 g,A5 g,show (!((x.Lo==x.Lo)&&((x.Hi==x.Hi)&&true)))=false by simp,cond_false];rw [A5 (show ck ((i:Int)+1)=some ((i+1:Nat):Int) by unfold ck;rw [if_pos ⟨by omega,by omega⟩,Int.natCast_add];rfl)];exact Nt L hl G (i+1) (by omega) (by omega)
  ·rw [decide_eq_false (by omega:¬(i:Int)<((L.length:Nat):Int)),cond_false];rfl
theorem Qz {L:List api_Span} {F:Nat} (hl:L.length≤1000000) (hF:1000000000000≤F):Fc F L L=some true:=by
 unfold Fc;rw [show (((L.length:Nat):Int) != ((L.length:Nat):Int))=false by simp,cond_false];exact Nt L hl F 0 (Nat.zero_le _) (by omega)
end Go.Proofs.Ytbhjgebjojdohaa
namespace Go.Proofs.Ytbhjgebjojdohaa
open Go Go.RowKit Go.Eng
set_option maxRecDepth 10000
set_option linter.unusedVariables false
set_option linter.unusedSimpArgs false
def okB (s:api_Span):Bool:=decide (0≤s.Lo)&&decide (s.Lo≤s.Hi)&&decide (s.Hi≤1073741824)
theorem A35 (s:api_Span):okB s=true↔okS s:=by unfold okB okS;simp [and_assoc]
theorem A1d (s:api_Span):(bif (bif decide (s.Lo<0) then true else decide (s.Lo>s.Hi)) then true else decide (s.Hi>1073741824))=!okB s:=by
 unfold okB
 by_cases h1:s.Lo<0
 ·rw [decide_eq_true h1,decide_eq_false (show ¬0≤s.Lo by omega)];rfl
 ·rw [decide_eq_false h1,decide_eq_true (show 0≤s.Lo by omega)]
  by_cases h2:s.Lo>s.Hi
  ·rw [decide_eq_true h2,decide_eq_false (show ¬s.Lo≤s.Hi by omega)];rfl
  ·rw [decide_eq_false h2,decide_eq_true (show s.Lo≤s.Hi by omega)]
   by_cases h3:s.Hi>1073741824
   ·rw [decide_eq_true h3,decide_eq_false (show ¬s.Hi≤1073741824 by omega)];rfl
   ·rw [decide_eq_false h3,decide_eq_true (show s.Hi≤1073741824 by omega)];rfl
theorem A36 (s:api_Span):(!Fg s 0 1073741824)=!okB s:=by
 unfold Fg okB
 by_cases h2:s.Lo≤s.Hi<;>by_cases h1:0≤s.Lo<;>by_cases h3:s.Hi≤1073741824<;>simp [h1,h2,h3]
def M0 (l:List api_Span):Bool:=decide (1≤l.length)&&decide (l.length≤200)&&l.all okB
def Lx (a b:List api_Span) (most:Int):Int:=if M0 a=true∧M0 b=true∧1≤most∧most≤800 then 0 else 3
theorem J5 {α:Type} {l:List α} {i:Nat} (h:i<l.length):∃x,l.drop i=x::l.drop (i+1)∧getI l (i:Int)=some x:=⟨l[i],List.drop_eq_getElem_cons h,by rw [getI_nat];exact List.getElem?_eq_getElem h⟩
theorem A0p (x2:Int) (k2:Int→Option Int) (l:List api_Span) (hl:l.length≤200):∀(G i:Nat),i≤l.length→l.length-i<G→Dc x2 k2 l G (i:Int)=if (l.drop i).all okB=true then Ef x2 k2 else some 3
 | 0,_,_,h=>by omega
 | G+1,i,hi,hG=>by
  rw [Dc,Fk]
  by_cases hlt:i<l.length
  ·obtain ⟨x,hd,hx⟩:=J5 hlt;rw [decide_eq_true (by omega:(i:Int)<((l.length:Nat):Int)),cond_true,A5 hx,A1d,hd,List.all_cons]
   cases hb:okB x with
   | true =>
    rw [Bool.not_true,cond_false,Bool.true_and];rw [A5 (show ck ((i:Int)+1)=some ((i+1:Nat):Int) by unfold ck;rw [if_pos ⟨by omega,by omega⟩,Int.natCast_add];rfl)];exact A0p x2 k2 l hl G (i+1) (by omega) (by omega)
   | false=>rw [Bool.not_false,cond_true,Bool.false_and,if_neg (by simp)]
  ·rw [decide_eq_false (by omega:¬(i:Int)<((l.length:Nat):Int)),cond_false,List.drop_eq_nil_of_le (by omega)];rfl
theorem A0o {F:Nat} {a b:List api_Span} {most:Int} (hF:1000000000000≤F) (l:List api_Span) (i:Nat) (hi:i<2) (hg:getI [a,b] (i:Int)=some l) (k2:Int→Option Int):Db F a b most k2 (i:Int)=if M0 l=true then k2 ((i+1:Nat):Int) else some 3:=by
 rw [Db,decide_eq_true (by omega:(i:Int)<((2:Nat):Int)),cond_true,A5 hg];unfold M0
 by_cases h1:1≤l.length
 ·rw [decide_eq_false (by omega:¬((l.length:Nat):Int)<1),cond_false,decide_eq_true h1]
  by_cases h2:l.length≤200
  ·rw [decide_eq_false (by omega:¬((l.length:Nat):Int)>200),cond_false,decide_eq_true h2,Bool.true_and];have:=A0p (i:Int) k2 l h2 F 0 (Nat.zero_le _) (by omega);rw [List.drop_zero,show ((0:Nat):Int)=0 from rfl] at this;rw [this,Ef,A5 (show ck ((i:Int)+1)=some ((i+1:Nat):Int) by unfold ck;rw [if_pos ⟨by omega,by omega⟩,Int.natCast_add];rfl)];rfl
  ·rw [decide_eq_true (by omega:((l.length:Nat):Int)>200),cond_true,decide_eq_false h2,if_neg (by simp)]
 ·rw [decide_eq_true (by omega:((l.length:Nat):Int)<1),cond_true,cond_true,decide_eq_false h1,if_neg (by simp)]
theorem Xs {F:Nat} {a b:List api_Span} {most:Int} (hF:1000000000000≤F):Ci F a b most=some (Lx a b most):=by
 unfold Ci;obtain ⟨G,rfl⟩:∃G,F=G+3:=⟨F-3,by omega⟩;have e0:=A0o (F:=G+3) (a:=a) (b:=b) (most:=most) hF a 0 (by omega) rfl (Bq (G+3) a b most (G+2));have e1:=A0o (F:=G+3) (a:=a) (b:=b) (most:=most) hF b 1 (by omega) rfl (Bq (G+3) a b most (G+1));rw [show (0:Int)=((0:Nat):Int) from rfl,Bq,e0];unfold Lx
 by_cases ha:M0 a=true
 ·rw [if_pos ha,Bq,e1]
  by_cases hb:M0 b=true
  ·rw [if_pos hb,Bq,Db,decide_eq_false (by omega:¬((1+1:Nat):Int)<((2:Nat):Int)),cond_false,Fl]
   by_cases h1:most<1
   ·rw [decide_eq_true h1,cond_true,cond_true,if_neg (fun h=>by omega)]
   ·rw [decide_eq_false h1,cond_false]
    by_cases h2:most>800
    ·rw [decide_eq_true h2,cond_true,if_neg (fun h=>by omega)]
    ·rw [decide_eq_false h2,cond_false,if_pos ⟨ha,hb,by omega,by omega⟩]
  ·rw [if_neg hb,if_neg (fun h=>hb h.2.1)]
 ·rw [if_neg ha,if_neg (fun h=>ha h.1)]
end Go.Proofs.Ytbhjgebjojdohaa
namespace Go.Proofs.Ytbhjgebjojdohaa
open Go Go.RowKit Go.Eng
set_option maxRecDepth 10000
set_option linter.unusedVariables false
set_option linter.unusedSimpArgs false
theorem A1z {a b:List api_Span} (j:Nat) (k2:Int→Option Int) (l:List api_Span) (hg:getI [a,b] (j:Int)=some l) (hl:l.length≤200):∀(G i:Nat),i≤l.length→l.length-i<G→D5 a b (j:Int) k2 G (i:Int)=if (l.drop i).all okB=true then E2 (j:Int) k2 else some 3
 | 0,_,_,h=>by omega
 | G+1,i,hi,hG=>by
  rw [D5,F4,A5 hg]
  by_cases hlt:i<l.length
  ·obtain ⟨x,hd,hx⟩:=J5 hlt;rw [decide_eq_true (by omega:(i:Int)<((l.length:Nat):Int)),cond_true,A5 hg,A5 hx,A36,hd,List.all_cons]
   cases hb:okB x with
   | true =>
    rw [Bool.not_true,cond_false,Bool.true_and];rw [A5 (show ck ((i:Int)+1)=some ((i+1:Nat):Int) by unfold ck;rw [if_pos ⟨by omega,by omega⟩,Int.natCast_add];rfl)];exact A1z j k2 l hg hl G (i+1) (by omega) (by omega)
   | false=>rw [Bool.not_false,cond_true,Bool.false_and,if_neg (by simp)]
  ·rw [decide_eq_false (by omega:¬(i:Int)<((l.length:Nat):Int)),cond_false,List.drop_eq_nil_of_le (by omega)];rfl
theorem A1y {F:Nat} {a b:List api_Span} {most:Int} (hF:1000000000000≤F) (l:List api_Span) (i:Nat) (hi:i<2) (hg:getI [a,b] (i:Int)=some l) (k2:Int→Option Int):D4 F a b most k2 (i:Int)=if M0 l=true then k2 ((i+1:Nat):Int) else some 3:=by
 rw [D4,decide_eq_true (by omega:(i:Int)<2),cond_true,A5 hg];unfold M0
 by_cases h1:1≤l.length
 ·rw [decide_eq_false (by omega:¬((l.length:Nat):Int)<1),cond_false,A5 hg,decide_eq_true h1]
  by_cases h2:l.length≤200
  ·rw [decide_eq_false (by omega:¬((l.length:Nat):Int)>200),cond_false,decide_eq_true h2,Bool.true_and];have:=A1z i k2 l hg h2 F 0 (Nat.zero_le _) (by omega);rw [List.drop_zero,show ((0:Nat):Int)=0 from rfl] at this;rw [this,E2,A5 (show ck ((i:Int)+1)=some ((i+1:Nat):Int) by unfold ck;rw [if_pos ⟨by omega,by omega⟩,Int.natCast_add];rfl)];rfl
  ·rw [decide_eq_true (by omega:((l.length:Nat):Int)>200),cond_true,decide_eq_false h2,if_neg (by simp)]
 ·rw [decide_eq_true (by omega:((l.length:Nat):Int)<1),cond_true,decide_eq_false h1,if_neg (by simp)]
theorem Tq {F:Nat} {a b:List api_Span} {most:Int} (hF:1000000000000≤F):Cg F a b most=some (Lx a b most):=by
 unfold Cg;obtain ⟨G,rfl⟩:∃G,F=G+3:=⟨F-3,by omega⟩;have e0:=A1y (F:=G+3) (a:=a) (b:=b) (most:=most) hF a 0 (by omega) rfl (Be (G+3) a b most (G+2));have e1:=A1y (F:=G+3) (a:=a) (b:=b) (most:=most) hF b 1 (by omega) rfl (Be (G+3) a b most (G+1));rw [show (0:Int)=((0:Nat):Int) from rfl,Be,e0];unfold Lx
 by_cases ha:M0 a=true
 ·rw [if_pos ha,Be,e1]
  by_cases hb:M0 b=true
  ·rw [if_pos hb,Be,D4,decide_eq_false (by omega:¬((1+1:Nat):Int)<2),cond_false,F5]
   by_cases h1:most<1
   ·rw [decide_eq_true h1,cond_true,cond_true,if_neg (fun h=>by omega)]
   ·rw [decide_eq_false h1,cond_false]
    by_cases h2:most>800
    ·rw [decide_eq_true h2,cond_true,if_neg (fun h=>by omega)]
    ·rw [decide_eq_false h2,cond_false,if_pos ⟨ha,hb,by omega,by omega⟩]
  ·rw [if_neg hb,if_neg (fun h=>hb h.2.1)]
 ·rw [if_neg ha,if_neg (fun h=>ha h.1)]
theorem U3 {F:Nat} {a b:List api_Span} {most:Nat} (hF:1000000000000≤F) (hP:U2 F a b most) (hl:Lx a b (most:Int)=0) {gate power:Int} (hg:0≤gate∧gate<(most:Int)) (hp:0≤power∧power≤1073741824):(B5 F a b (most:Int) gate power=some 0∧∃p,PF a b most gate ⟨power,power⟩ p)∨(B5 F a b (most:Int) gate power=some 14∧∀p,¬PF a b most gate ⟨power,power⟩ p):=by
 obtain ⟨l,is,q1,q2,q3⟩:=hP gate ⟨power,power⟩ ⟨hp.1,Int.le_refl _,hp.2⟩;have head:B5 F a b (most:Int) gate power=bif !is then some 14 else some 0:=by
  unfold B5;rw [A5 (Tq hF),hl,show ((0:Int) != 0)=false from rfl,cond_false,decide_eq_false (by omega:¬gate<0),cond_false,decide_eq_false (by omega:¬gate≥(most:Int)),cond_false,decide_eq_false (by omega:¬power<0),cond_false,decide_eq_false (by omega:¬power>1073741824),cond_false,A5 q1]
 cases is with
 | true=>exact .inl ⟨head.trans rfl,l,q2 rfl⟩
 | false=>exact .inr ⟨head.trans rfl,q3 rfl⟩
end Go.Proofs.Ytbhjgebjojdohaa
namespace Go.Proofs.Ytbhjgebjojdohaa
open Go Go.RowKit Go.Eng
set_option maxRecDepth 10000
set_option linter.unusedVariables false
set_option linter.unusedSimpArgs false
theorem S1 (ψ:Nat→Int):∀(p:List Int) (k:Nat) (x:Int),D2 ψ k (p++[x])=D2 ψ k p+x*ψ (k+p.length)
 | [],k,x=>by show x*ψ k+0=0+x*ψ (k+0);rw [Nat.add_zero];omega
 | y::p,k,x=>by
  rw [List.cons_append,D2,D2,S1 ψ p (k+1) x,List.length_cons,show k+(p.length+1)=k+1+p.length by omega];omega
def sums (n:Nat) (p:List Int):List Int:=(List.range n).map fun i=>sumAt n i p
theorem Mb {n:Nat} {p:List Int} {i:Nat} (h:i<n):getI (sums n p) (i:Int)=some (sumAt n i p):=by
 rw [getI_nat];unfold sums;rw [List.getElem?_map,List.getElem?_range h];rfl
theorem Hy (n:Nat) (p:List Int):(sums n p).length=n:=by unfold sums;rw [List.length_map,List.length_range]
theorem A2b {n:Nat} {p:List Int} {x:Int} (hn:0<n):B7 (sums n p) ((p.length%n:Nat):Int) (sumAt n (p.length%n) p+x)=some (sums n (p++[x])):=by
 have hm:=Nat.mod_lt p.length hn;unfold B7;rw [if_pos ⟨by omega,by rw [Hy];omega⟩,Int.toNat_natCast]
 congr 1
 apply List.ext_getElem?;intro i;have hs:∀i,sumAt n i (p++[x])=sumAt n i p+x*(if p.length%n=i then 1 else 0):=fun i=>by
  unfold sumAt;rw [S1,Nat.zero_add]
 by_cases hi:i<n
 ·have e:(sums n (p++[x]))[i]? = some (sumAt n i (p++[x])):=by unfold sums;rw [List.getElem?_map,List.getElem?_range hi];rfl
  rw [e,hs]
  by_cases ei:p.length%n=i
  ·rw [ei,List.getElem?_set_self (by rw [Hy];exact hi),if_pos rfl,Int.mul_one]
  ·rw [List.getElem?_set_ne ei,if_neg ei,Int.mul_zero,Int.add_zero];unfold sums;rw [List.getElem?_map,List.getElem?_range hi];rfl
 ·rw [List.getElem?_eq_none (by rw [List.length_set,Hy];omega),List.getElem?_eq_none (by rw [Hy];omega)]
theorem A2a {n i:Nat}:∀(p:List Int),(∀x∈p,0≤x∧x≤1073741824)→0≤sumAt n i p∧sumAt n i p≤1073741824*(p.length:Int):=by
 have key:∀(p:List Int) (k:Nat),(∀x∈p,0≤x∧x≤1073741824)→0≤D2 (fun r=>if r%n=i then 1 else 0) k p∧D2 (fun r=>if r%n=i then 1 else 0) k p≤1073741824*(p.length:Int):=by
  intro p
  induction p with
  | nil=>intro k _;exact ⟨Int.le_refl _,Int.le_refl _⟩
  | cons x p ih =>
   intro k h;have hx:=h x (List.mem_cons_self ..);have:=ih (k+1) fun y hy=>h y (List.mem_cons_of_mem _ hy);rw [D2,List.length_cons]
   split
   ·rw [Int.mul_one];omega
   ·rw [Int.mul_zero];omega
 exact fun p h=>key p 0 h
theorem Ry {a b:List api_Span} {p:List Int} (hp:∀x∈p,0≤x∧x≤1073741824) (hpl:p.length≤100) {F:Nat} (j:Int) (k2:Int→Option Bool) {n:Nat} (hn:0<n):∀(G r:Nat),r≤p.length→p.length-r<G→E5 F a b p j k2 G (sums n (p.take r)) (r:Int)=F1 F a b j k2 (sums n p)
 | 0,_,_,h=>by omega
 | G+1,r,hr,hG=>by
  rw [E5,G7]
  by_cases hlt:r<p.length
  ·obtain ⟨x,hd,hx⟩:=J5 hlt;have bx:=hp x (by rw [getI_nat] at hx;exact List.mem_of_getElem? hx);have hb:=A2a (n:=n) (i:=r%n) (p.take r) (fun y hy=>hp y (List.mem_of_mem_take hy));have htl:(p.take r).length=r:=by rw [List.length_take];omega
   have hst:=A2b (p:=p.take r) (x:=x) hn;rw [htl] at hst hb;rw [decide_eq_true (by omega:(r:Int)<((p.length:Nat):Int)),cond_true,A5 hx,decide_eq_false (by omega:¬x<0)];rw [show gd (((false:Bool))==false&&true) (getI p (r:Int)) default=getI p (r:Int) from rfl,A5 hx,cond_false,decide_eq_false (by omega:¬x>1073741824),cond_false,Hy];rw [A5 (show Gn (r:Int) ((n:Nat):Int)=some ((r%n:Nat):Int) by unfold Gn;rw [if_neg (by omega)];rfl)];rw [A5 (Mb (Nat.mod_lt r hn)),A5 hx,A5 (ckJ (x:=sumAt n (r%n) (p.take r)+x) (by omega)),A5 (Mb (Nat.mod_lt r hn)),A5 hst];rw [A5 (show ck ((r:Int)+1)=some ((r+1:Nat):Int) by unfold ck;rw [if_pos ⟨by omega,by omega⟩,Int.natCast_add];rfl)];have e:p.take r++[x]=p.take (r+1):=by rw [getI_nat] at hx;rw [List.take_add_one,hx];rfl
   rw [e];exact Ry hp hpl j k2 hn G (r+1) (by omega) (by omega)
  ·rw [decide_eq_false (by omega:¬(r:Int)<((p.length:Nat):Int)),cond_false,List.take_of_length_le (by omega)]
end Go.Proofs.Ytbhjgebjojdohaa
namespace Go.Proofs.Ytbhjgebjojdohaa
open Go Go.RowKit Go.Eng
set_option maxRecDepth 10000
set_option linter.unusedVariables false
set_option linter.unusedSimpArgs false
theorem A0n {a b:List api_Span} {p:List Int} (j:Int) (k2:Int→Option Bool) {n:Nat} (hn:n≤1000) (l:List api_Span) (hl:l.length=n) (hg:getI [a,b] j=some l) (hs:∀(i:Nat) (s:api_Span),l[i]? = some s→s.Lo≤sumAt n i p∧sumAt n i p≤s.Hi):∀(G i:Nat),i≤n→n-i<G→E4 a b j k2 (sums n p) G (i:Int)=Ez j k2
 | 0,_,_,h=>by omega
 | G+1,i,hi,hG=>by
  rw [E4,G6,Hy]
  by_cases hlt:i<n
  ·obtain ⟨s,hd,hx⟩:=J5 (l:=l) (i:=i) (by omega);have hx':=hx;rw [getI_nat] at hx';have hb:=hs i s hx';rw [decide_eq_true (by omega:(i:Int)<((n:Nat):Int)),cond_true,A5 (Mb hlt),A5 hg,A5 hx,decide_eq_false (by omega:¬sumAt n i p<s.Lo)];rw [show gd (((false:Bool))==false&&true) (getI (sums n p) (i:Int)) default=getI (sums n p) (i:Int) from rfl,A5 (Mb hlt),cond_false,A5 hg,A5 hx,cond_false,decide_eq_false (by omega:¬sumAt n i p>s.Hi),cond_false];rw [A5 (show ck ((i:Int)+1)=some ((i+1:Nat):Int) by unfold ck;rw [if_pos ⟨by omega,by omega⟩,Int.natCast_add];rfl)];exact A0n j k2 hn l hl hg hs G (i+1) (by omega) (by omega)
  ·rw [decide_eq_false (by omega:¬(i:Int)<((n:Nat):Int)),cond_false]
theorem A2h {a b:List api_Span} {p:List Int} {most:Nat} {F:Nat} (hF:1000000000000≤F) (ha:0<a.length∧a.length≤100) (hb:0<b.length∧b.length≤100) (hmo:most≤100) {gate:Nat} (hg:gate<most) {power:Int} (hp0:0≤power∧power≤1073741824) (h:PF a b most (gate:Int) ⟨power,power⟩ p):G2 F a b p (gate:Int) power=some true:=by
 obtain ⟨h1,h2⟩:=(Le hp0.1 hp0.2 p).1 h;have nn:=U1 h1;obtain ⟨x,hx⟩:∃x,p[gate]? = some x:=⟨_,List.getElem?_eq_getElem (by rw [h1.len];exact hg)⟩;have hxp:=h2 x hx;have hxe:x=power:=by omega
 have part:∀(i:Nat) (l:List api_Span) (k2:Int→Option Bool),i<2→0<l.length→l.length≤100→getI [a,b] (i:Int)=some l→(∀(k:Nat) (s:api_Span),l[k]? = some s→s.Lo≤sumAt l.length k p∧sumAt l.length k p≤s.Hi)→C6 F a b p (gate:Int) power k2 (i:Int)=k2 ((i+1:Nat):Int):=fun i l k2 hi hl0 hl1 hgl hs=>by
  rw [C6,decide_eq_true (by omega:(i:Int)<2),cond_true,A5 hgl];rw [A5 (show mkI 8 ((l.length:Nat):Int) (0:Int)=some (sums l.length (p.take 0)) by
   unfold mkI;rw [if_pos ⟨by omega,by omega,by omega⟩,Int.toNat_natCast,List.take_zero]
   congr 1
   apply List.ext_getElem?;intro k;unfold sums;rw [List.getElem?_replicate,List.getElem?_map]
   by_cases hk:k<l.length
   ·rw [if_pos hk,List.getElem?_range hk];rfl
   ·rw [if_neg hk,List.getElem?_eq_none (by rw [List.length_range];omega)];rfl)]
  rw [show (0:Int)=((0:Nat):Int) from rfl,Ry nn (by rw [h1.len];exact hmo) (i:Int) k2 hl0 F 0 (Nat.zero_le _) (by rw [h1.len];omega),F1];rw [show (0:Int)=((0:Nat):Int) from rfl,A0n (i:Int) k2 (by omega) l rfl hgl hs F 0 (Nat.zero_le _) (by omega),Ez];rw [A5 (show ck ((i:Int)+1)=some ((i+1:Nat):Int) by unfold ck;rw [if_pos ⟨by omega,by omega⟩,Int.natCast_add];rfl)]
 unfold G2;have e0:=part 0 a (Ay F a b p (gate:Int) power (F-1)) (by omega) ha.1 ha.2 rfl h1.sa;have e1:=part 1 b (Ay F a b p (gate:Int) power (F-2)) (by omega) hb.1 hb.2 rfl h1.sb;have l1:∀i,Ay F a b p (gate:Int) power F i=C6 F a b p (gate:Int) power (Ay F a b p (gate:Int) power (F-1)) i:=fun i=>by
  have:∀H G,H=G+1→Ay F a b p (gate:Int) power H i=C6 F a b p (gate:Int) power (Ay F a b p (gate:Int) power G) i:=fun H G e=>by subst e;rw [Ay]
  exact this F (F-1) (by omega)
 have lk:∀H G i,H=G+1→Ay F a b p (gate:Int) power H i=C6 F a b p (gate:Int) power (Ay F a b p (gate:Int) power G) i:=fun H G i e=>by subst e;rw [Ay]
 rw [l1,show (0:Int)=((0:Nat):Int) from rfl,e0,lk (F-1) (F-2) _ (by omega),e1,lk (F-2) (F-3) _ (by omega),C6,decide_eq_false (by omega:¬((1+1:Nat):Int)<2),cond_false,G8];rw [decide_eq_true (by omega:(gate:Int)≥0),cond_true,h1.len,decide_eq_true (by omega:(gate:Int)<((most:Nat):Int))];rw [show gd (((true:Bool))==true&&true) (getI p (gate:Int)) default=getI p (gate:Int) from rfl,A5 (show getI p (gate:Int)=some x by rw [getI_nat];exact hx),cond_true,hxe];simp
end Go.Proofs.Ytbhjgebjojdohaa
namespace Go.Proofs.Ytbhjgebjojdohaa
open Go Go.RowKit Go.Eng
set_option maxRecDepth 10000
set_option linter.unusedVariables false
set_option linter.unusedSimpArgs false
theorem Ht {l:List api_Span} (h:M0 l=true):(0<l.length∧l.length≤200)∧∀s∈l,okS s:=by
 unfold M0 at h;simp only [Bool.and_eq_true,decide_eq_true_eq,List.all_eq_true] at h;exact ⟨⟨by omega,h.1.2⟩,fun s hs=>(A35 s).1 (h.2 s hs)⟩
theorem Wt {a b:List api_Span} {most:Int} (h:Lx a b most=0):M0 a=true∧M0 b=true∧1≤most∧most≤800:=by
 unfold Lx at h
 split at h
 ·assumption
 ·cases h
theorem A2z (a b:List api_Span) (most:Int):Lx a b most=0∨Lx a b most=3:=by unfold Lx;split;exact .inl rfl;exact .inr rfl
theorem A10 {F:Nat} (hF:1000000000000≤F) {a b:List api_Span} {p2 gate power:Int} (hs:Lx a b p2=0→a.length≤6∧b.length≤6∧p2≤14) (hPR:∀most:Nat,p2=(most:Int)→Lx a b p2=0→U2 F a b most) :
  ((Cn F a b p2).bind fun y9=>(C9 F a b p2).bind fun y13=>(Fc F y9.1 y13.1).bind fun y16 =>
   bif (bif (!y16) then true else (y9.2 != y13.2)) then (some false) else ((Bc F a b p2 gate power).bind fun y18=>(B5 F a b p2 gate power).bind fun y21 =>
   bif (y18.2 != y21) then (some false) else (bif (y18.2 != 0) then (some (bif (((y18.1.length:Nat):Int)==0) then D8 else false)) else ((gd (((((y18.1.length:Nat):Int)==p2)==true&&true)) (G2 F a b y18.1 gate power) default).bind fun y22 =>
   some (bif (bif (((y18.1.length:Nat):Int)==p2) then y22 else false) then D8 else false)))))=some true:=by
 rcases A2z a b p2 with h0|h3
 ·obtain ⟨oa,ob,m1,m2⟩:=Wt h0;obtain ⟨s1,s2,s3⟩:=hs h0;obtain ⟨la,va⟩:=Ht oa;obtain ⟨lb,vb⟩:=Ht ob;obtain ⟨most,rfl⟩:∃most:Nat,p2=(most:Int):=⟨p2.toNat,by omega⟩;have hP:=hPR most rfl h0;have fl:Ci F a b (most:Int)=some 0:=by rw [Xs hF,h0]
  have rl:Cg F a b (most:Int)=some 0:=by rw [Tq hF,h0]
  have first:∃L e,Cn F a b (most:Int)=some (L,e)∧C9 F a b (most:Int)=some (L,e)∧L.length≤1000000:=by
   rcases Zp (by omega) (by omega) va vb (by omega) hF fl with ⟨L,l1,l2,l3⟩|⟨l1,l2⟩<;>rcases V4 (by omega) la.1 lb.1 va vb hF hP rl with ⟨K,k1,k2,k3⟩|⟨k1,k2⟩
   ·exact ⟨L,0,l1,by rw [k1,Zk l2 k2 l3 k3],by omega⟩
   ·exfalso;obtain ⟨s,hs'⟩:∃s,L[0]? = some s:=⟨_,List.getElem?_eq_getElem (by omega)⟩;obtain ⟨⟨p,hp,_⟩,_⟩:=l3 0 s hs';exact k2 p hp
   ·exfalso;obtain ⟨s,hs'⟩:∃s,K[0]? = some s:=⟨_,List.getElem?_eq_getElem (by omega)⟩;obtain ⟨⟨p,hp,_⟩,_⟩:=k3 0 s hs';exact l2 p hp
   ·exact ⟨[],14,l1,k1,by simp⟩
  obtain ⟨L,e,f1,f2,f3⟩:=first
  rw [A5 f1,A5 f2,A5 (Qz f3 hF)];dsimp only;rw [Bool.not_true,cond_false,show (e != e)=false by simp,cond_false]
  by_cases hg:0≤gate∧gate<(most:Int)∧0≤power∧power≤1073741824
  ·obtain ⟨g,rfl⟩:∃g:Nat,gate=(g:Int):=⟨gate.toNat,by omega⟩;rcases Vs (by omega) (by omega) va vb (by omega) hF fl (gate:=g) (by omega) (power:=power) (by omega) with ⟨p,p1,q1⟩|⟨p1,q1⟩<;>rcases U3 hF hP h0 (gate:=(g:Int)) (by omega) (power:=power) (by omega) with ⟨r1,t,t1⟩|⟨r1,t1⟩
   ·rw [A5 p1,A5 r1];dsimp only;rw [show ((0:Int) != 0)=false from rfl,cond_false,cond_false,q1.len,show (((most:Nat):Int)==(most:Int))=true by simp];rw [show ∀o:Option Bool,gd (((true:Bool))==true&&true) o default=o from fun o=>rfl,A5 (A2h hF (by omega) (by omega) (by omega) (by omega) (by omega) q1)];rfl
   ·exact absurd q1 (t1 p)
   ·exact absurd t1 (q1 t)
   ·rw [A5 p1,A5 r1];rfl
  ·have hb:(bif (bif (bif decide (gate<0) then true else decide (gate≥(most:Int))) then true else decide (power<0)) then true else decide (power>1073741824))=true:=by
    by_cases h1:gate<0
    ·rw [decide_eq_true h1];rfl
    ·rw [decide_eq_false h1,cond_false]
     by_cases h2:gate≥(most:Int)
     ·rw [decide_eq_true h2];rfl
     ·rw [decide_eq_false h2,cond_false]
      by_cases h3:power<0
      ·rw [decide_eq_true h3];rfl
      ·rw [decide_eq_false h3,cond_false,decide_eq_true (by omega)]
   have p1:Bc F a b (most:Int) gate power=some ([],3):=by
    unfold Bc;rw [A5 fl,show ((0:Int) != 0)=false from rfl,cond_false,hb,cond_true]
   have r1:B5 F a b (most:Int) gate power=some 3:=by
    unfold B5;rw [A5 rl,show ((0:Int) != 0)=false from rfl,cond_false,hb,cond_true]
   rw [A5 p1,A5 r1];rfl
 ·have fl:Ci F a b p2=some 3:=by rw [Xs hF,h3]
  have rl:Cg F a b p2=some 3:=by rw [Tq hF,h3]
  rw [A5 (show Cn F a b p2=some ([],3) by unfold Cn;rw [A5 fl];rfl),A5 (show C9 F a b p2=some ([],3) by unfold C9;rw [A5 rl];rfl),A5 (Qz (L:=[]) (by simp) hF)];rw [A5 (show Bc F a b p2 gate power=some ([],3) by unfold Bc;rw [A5 fl];rfl),A5 (show B5 F a b p2 gate power=some 3 by unfold B5;rw [A5 rl];rfl)];rfl
end Go.Proofs.Ytbhjgebjojdohaa
namespace Go.Proofs.Ytbhjgebjojdohaa
open Go Go.RowKit Go.Eng
set_option maxRecDepth 10000
set_option linter.unusedVariables false
set_option linter.unusedSimpArgs false
def smB (n:Nat):Bool:=bif (bif decide ((n:Int)>6) then decide ((n:Int)≤200) else false) then true else decide ((n:Int)>205)
theorem A27 {a b:List api_Span} {p2:Int} (n:Nat) (i:Nat) (hi:i<2) (hg:getI [((a.length:Nat):Int),((b.length:Nat):Int)] (i:Int)=some (n:Int)) (k2:Int→Option Bool):Co a b p2 k2 (i:Int)=bif smB n then some false else k2 ((i+1:Nat):Int):=by
 rw [Co,decide_eq_true (by omega:(i:Int)<2),cond_true,A5 hg];unfold smB
 by_cases h1:(n:Int)>6
 ·rw [decide_eq_true h1,show ∀o:Option Int,gd (((true:Bool))==true&&true) o default=o from fun o=>rfl,A5 hg,cond_true]
  by_cases h2:(n:Int)≤200
  ·rw [decide_eq_true h2];simp only [cond_true];rw [show ∀o:Option Int,gd (((true:Bool))==false&&true) o default=some default from fun o=>rfl,A5 rfl]
  ·rw [decide_eq_false h2,show ∀o:Option Int,gd (((false:Bool))==false&&true) o default=o from fun o=>rfl,A5 hg,cond_false]
   by_cases h3:(n:Int)>205
   ·rw [decide_eq_true h3];simp only [cond_true,cond_false]
   ·rw [decide_eq_false h3,cond_false,A5 (show ck ((i:Int)+1)=some ((i+1:Nat):Int) by unfold ck;rw [if_pos ⟨by omega,by omega⟩,Int.natCast_add];rfl)];simp only [cond_true,cond_false]
 ·rw [decide_eq_false h1,show ∀o:Option Int,gd (((false:Bool))==true&&true) o default=some default from fun o=>rfl,A5 rfl,cond_false,show ∀o:Option Int,gd (((false:Bool))==false&&true) o default=o from fun o=>rfl,A5 hg,cond_false,decide_eq_false (by omega:¬(n:Int)>205),cond_false,cond_false,A5 (show ck ((i:Int)+1)=some ((i+1:Nat):Int) by unfold ck;rw [if_pos ⟨by omega,by omega⟩,Int.natCast_add];rfl)];simp only [cond_true,cond_false]
theorem A28 {F:Nat} {a b:List api_Span} {p2:Int} (hF:1000000000000≤F):Gc F a b p2=some (bif smB a.length then false else bif smB b.length then false else (bif decide (p2≤14) then true else decide (p2>800))):=by
 unfold Gc;have lk:∀H G i,H=G+1→Cp a b p2 H i=Co a b p2 (Cp a b p2 G) i:=fun H G i e=>by subst e;rw [Cp]
 rw [lk F (F-1) _ (by omega),show (0:Int)=((0:Nat):Int) from rfl,A27 a.length 0 (by omega) rfl]
 cases smB a.length with
 | true=>rfl
 | false =>
  rw [cond_false,cond_false,lk (F-1) (F-2) _ (by omega),A27 b.length 1 (by omega) rfl]
  cases smB b.length with
  | true=>rfl
  | false =>
   rw [cond_false,cond_false,lk (F-2) (F-3) _ (by omega),Co,decide_eq_false (by omega:¬((1+1:Nat):Int)<2),cond_false];rfl
end Go.Proofs.Ytbhjgebjojdohaa
namespace Go.Proofs.Ytbhjgebjojdohaa
open Go Go.RowKit Go.Eng
set_option maxRecDepth 10000
set_option linter.unusedVariables false
theorem A26 {n:Nat} (h:smB n=false) (h2:n≤200):n≤6:=by
 unfold smB at h
 by_cases h1:(n:Int)>6
 ·rw [decide_eq_true h1,decide_eq_true (by omega:(n:Int)≤200)] at h
  cases h
 ·omega
theorem Sj {F:Nat} (hF:1000000000000≤F) (a b:List api_Span) (p2 p3 p4:Int) (hPR:∀most:Nat,p2=(most:Int)→Lx a b p2=0→a.length≤6→b.length≤6→most≤14→U2 F a b most):D3 F a b p2 p3 p4=some true:=by
 unfold D3;rw [A5 (A28 hF)]
 cases ha:smB a.length with
 | true=>rw [cond_true];rfl
 | false =>
  cases hb:smB b.length with
  | true=>rw [cond_false,cond_true];rfl
  | false =>
   rw [cond_false,cond_false]
   cases hc:(bif decide (p2≤14) then true else decide (p2>800)) with
   | false=>rfl
   | true =>
    rw [Bool.not_true,cond_false];have key:Lx a b p2=0→a.length≤6∧b.length≤6∧p2≤14:=fun h0=>by
     obtain ⟨oa,ob,m1,m2⟩:=Wt h0;refine ⟨A26 ha (Ht oa).1.2,A26 hb (Ht ob).1.2,?_⟩
     by_cases h:p2≤14
     ·exact h
     ·rw [decide_eq_false h,cond_false] at hc;have:=of_decide_eq_true hc;omega
    exact A10 hF key fun most e h0=>hPR most e h0 (key h0).1 (key h0).2.1 (by have:=(key h0).2.2;omega)
end Go.Proofs.Ytbhjgebjojdohaa
namespace Go.Proofs.Ytbhjgebjojdohaa
open Go Go.RowKit Go.Eng
set_option maxRecDepth 10000
set_option linter.unusedVariables false
set_option linter.unusedSimpArgs false
def mQ:List prP→Int→Int→Int
 | [],_,_=>0
 | p::Q,x,y=>(if p.u=x∧p.v=y then p.r else 0)+(if p.v=x∧p.u=y then p.c else 0)+mQ Q x y
theorem A15 (x y:Int):∀Q R:List prP,mQ (Q++R) x y=mQ Q x y+mQ R x y
 | [],R=>by rw [List.nil_append];show _=0+_;omega
 | p::Q,R=>by rw [List.cons_append,mQ,mQ,A15 x y Q R];omega
theorem Jc {x y:Int}:∀{Q:List prP},(∀p∈Q,¬(p.u=x∧p.v=y)∧¬(p.v=x∧p.u=y))→mQ Q x y=0
 | [],_=>rfl
 | p::Q,h=>by
  have h0:=h p (List.mem_cons_self ..);rw [mQ,if_neg h0.1,if_neg h0.2,Jc fun q hq=>h q (List.mem_cons_of_mem _ hq)];rfl
theorem Wx (x y:Int):∀{Q:List prP} {e:Nat} {p q:prP},Q[e]? = some p→q.u=p.u→q.v=p.v→mQ (Q.set e q) x y=mQ Q x y+(if p.u=x∧p.v=y then q.r-p.r else 0)+(if p.v=x∧p.u=y then q.c-p.c else 0)
 | [],e,p,q,h,_,_=>by simp at h
 | a::Q,0,p,q,h,hu,hv=>by
  simp at h;subst h;rw [List.set_cons_zero,mQ,mQ,hu,hv]
  split<;>split<;>omega
 | a::Q,e+1,p,q,h,hu,hv=>by
  simp only [List.getElem?_cons_succ] at h;rw [List.set_cons_succ,mQ,mQ,Wx x y h hu hv];omega
def DQ (Q:List prP):Prop:=(∀p∈Q,p.u≠p.v)∧∀(e f:Nat) (p q:prP),Q[e]? = some p→Q[f]? = some q→((p.u=q.u∧p.v=q.v)∨(p.u=q.v∧p.v=q.u))→e=f
theorem DQ.tail {a:prP} {Q:List prP} (h:DQ (a::Q)):DQ Q:=⟨fun p hp=>h.1 p (List.mem_cons_of_mem _ hp),fun e f p q h1 h2 h3=>by
 have:=h.2 (e+1) (f+1) p q (by simpa using h1) (by simpa using h2) h3;omega⟩
theorem DQ.sm {Q R:List prP} (h:DQ Q) (hs:Sm Q R):DQ R:=by
 refine ⟨fun p hp=>?_,fun e f p q h1 h2 h3=>?_⟩
 ·obtain ⟨e,he⟩:=List.mem_iff_getElem?.1 hp;obtain ⟨a,ha,h1,h2,_⟩:=hs.symm.get he;have:=h.1 a (List.mem_of_getElem? ha);rw [h1,h2] at this;exact this
 ·obtain ⟨a,ha,a1,a2,_⟩:=hs.symm.get h1;obtain ⟨b,hb,b1,b2,_⟩:=hs.symm.get h2;exact h.2 e f a b ha hb (by rw [a1,a2,b1,b2];exact h3)
theorem Qd:∀{Q:List prP} {e:Nat} {p:prP},DQ Q→Q[e]? = some p→mQ Q p.u p.v=p.r∧mQ Q p.v p.u=p.c
 | [],e,p,_,h=>by simp at h
 | a::Q,0,p,hd,h=>by
  simp at h;subst h;have hne:=hd.1 a (List.mem_cons_self ..);have oth:∀q∈Q,¬(q.u=a.u∧q.v=a.v)∧¬(q.u=a.v∧q.v=a.u):=fun q hq=>by
   obtain ⟨f,hf⟩:=List.mem_iff_getElem?.1 hq;exact ⟨fun e=>by have:=hd.2 (f+1) 0 q a (by simpa using hf) rfl (.inl e);omega,fun e=>by have:=hd.2 (f+1) 0 q a (by simpa using hf) rfl (.inr e);omega⟩
  constructor
  ·rw [mQ,if_pos ⟨rfl,rfl⟩,if_neg (fun e=>hne e.1.symm),Jc fun q hq=>⟨(oth q hq).1,fun e=>(oth q hq).2 ⟨e.2,e.1⟩⟩];omega
  ·rw [mQ,if_neg (fun e=>hne e.1),if_pos ⟨rfl,rfl⟩,Jc fun q hq=>⟨(oth q hq).2,fun e=>(oth q hq).1 ⟨e.2,e.1⟩⟩];omega
 | a::Q,e+1,p,hd,h=>by
  simp only [List.getElem?_cons_succ] at h;obtain ⟨i1,i2⟩:=Qd hd.tail h;have n1:¬(a.u=p.u∧a.v=p.v):=fun q=>by have:=hd.2 0 (e+1) a p rfl (by simpa using h) (.inl q);omega
  have n2:¬(a.u=p.v∧a.v=p.u):=fun q=>by have:=hd.2 0 (e+1) a p rfl (by simpa using h) (.inr q);omega
  constructor
  ·rw [mQ,if_neg n1,if_neg (fun q=>n2 ⟨q.2,q.1⟩),i1];omega
  ·rw [mQ,if_neg n2,if_neg (fun q=>n1 ⟨q.2,q.1⟩),i2];omega
theorem Ww {Q:List prP} {x y:Int} (h:mQ Q x y≠0):∃(e:Nat) (p:prP),Q[e]? = some p∧((p.u=x∧p.v=y)∨(p.v=x∧p.u=y)):=by
 by_cases hx:∃p∈Q,(p.u=x∧p.v=y)∨(p.v=x∧p.u=y)
 ·obtain ⟨p,hp,h1⟩:=hx;obtain ⟨e,he⟩:=List.mem_iff_getElem?.1 hp;exact ⟨e,p,he,h1⟩
 ·exact absurd (Jc fun p hp=>⟨fun e=>hx ⟨p,hp,.inl e⟩,fun e=>hx ⟨p,hp,.inr e⟩⟩) h
def GQ (N:Nat) (C:Int) (Q:List prP):Prop:=∀p∈Q,(0≤p.u∧p.u<N)∧(0≤p.v∧p.v<N)∧0≤p.r∧0≤p.c∧p.r+p.c≤C
theorem GQ.nn {N:Nat} {C:Int} {Q:List prP} (h:GQ N C Q):NN Q:=fun p hp=>⟨(h p hp).2.2.1,(h p hp).2.2.2.1⟩
theorem GQ.sm {N:Nat} {C:Int} {Q R:List prP} (h:GQ N C Q) (hs:Sm Q R) (hn:NN R):GQ N C R:=fun p hp=>by
 obtain ⟨e,he⟩:=List.mem_iff_getElem?.1 hp;obtain ⟨a,ha,h1,h2,h3⟩:=hs.symm.get he;have:=h a (List.mem_of_getElem? ha);have:=hn p hp;rw [h1,h2] at *;exact ⟨by omega,by omega,this.1,this.2,by omega⟩
theorem A6d {N:Nat} {C:Int} {Q:List prP} (h:GQ N C Q) (hd:DQ Q) (hC:0≤C) (x y:Int):0≤mQ Q x y∧0≤mQ Q y x∧mQ Q x y+mQ Q y x≤C:=by
 by_cases hx:∃p∈Q,(p.u=x∧p.v=y)∨(p.v=x∧p.u=y)
 ·obtain ⟨p,hp,h1⟩:=hx;obtain ⟨e,he⟩:=List.mem_iff_getElem?.1 hp;obtain ⟨a1,a2⟩:=Qd hd he;obtain ⟨_,_,g1,g2,g3⟩:=h p hp;rcases h1 with ⟨rfl,rfl⟩|⟨rfl,rfl⟩<;>rw [a1,a2]<;>omega
 ·rw [Jc (x:=x) (y:=y) fun p hp=>⟨fun e=>hx ⟨p,hp,.inl e⟩,fun e=>hx ⟨p,hp,.inr e⟩⟩,Jc (x:=y) (y:=x) fun p hp=>⟨fun e=>hx ⟨p,hp,.inr ⟨e.2,e.1⟩⟩,fun e=>hx ⟨p,hp,.inl ⟨e.2,e.1⟩⟩⟩];omega
theorem Sm.set {Q:List prP} {e:Nat} {p q:prP} (h:Q[e]? = some p) (h1:q.u=p.u) (h2:q.v=p.v) (h3:q.r+q.c=p.r+p.c):Sm Q (Q.set e q):=by
 refine ⟨List.length_set,fun f a b ha hb=>?_⟩
 by_cases ef:e=f
 ·subst ef;rw [h] at ha;cases ha
  rw [List.getElem?_set_self (List.getElem?_eq_some_iff.1 h).1] at hb;cases hb
  exact ⟨h1,h2,h3⟩
 ·rw [List.getElem?_set_ne ef,ha] at hb;cases hb
  exact ⟨by rfl,by rfl,by rfl⟩
theorem NN.set {Q:List prP} (h:NN Q) {e:Nat} {q:prP} (hq:0≤q.r∧0≤q.c):NN (Q.set e q):=fun p hp=>by
 rcases List.mem_or_eq_of_mem_set hp with hp|rfl
 ·exact h p hp
 ·exact hq
theorem A6t {Q:List prP} (hd:DQ Q) (hn:NN Q) {x y k:Int} (h0:0≤k) (hp:0<mQ Q y x) (hk:k≤mQ Q y x):∃Q2,Sm Q Q2∧NN Q2∧y≠x∧(∀φ,WQ φ Q2=WQ φ Q+k*(φ y-φ x))∧∀a b,mQ Q2 a b=mQ Q a b-(if a=y∧b=x then k else 0)+(if a=x∧b=y then k else 0):=by
 obtain ⟨e,p,he,hc⟩:=Ww (by omega:mQ Q y x≠0);obtain ⟨a1,a2⟩:=Qd hd he;have hne:=hd.1 p (List.mem_of_getElem? he);have hpn:=hn p (List.mem_of_getElem? he);have m:∀φ:Int→Int,k*(φ y-φ x)=k*φ y-k*φ x:=fun φ=>Int.mul_sub _ _ _;rcases hc with ⟨rfl,rfl⟩|⟨rfl,rfl⟩
 ·rw [a1] at hp hk;refine ⟨Q.set e ⟨p.u,p.v,p.r-k,p.c+k⟩,Sm.set he rfl rfl (by dsimp only;omega),hn.set (by dsimp only;omega),hne,fun φ=>?_,fun a b=>?_⟩
  ·rw [Mg φ he,m];dsimp only;rw [Int.sub_mul,Int.add_mul];omega
  ·rw [Wx (q:=⟨p.u,p.v,p.r-k,p.c+k⟩) a b he rfl rfl];dsimp only
   split<;>split<;>split<;>split<;>omega
 ·rw [a2] at hp hk;refine ⟨Q.set e ⟨p.u,p.v,p.r+k,p.c-k⟩,Sm.set he rfl rfl (by dsimp only;omega),hn.set (by dsimp only;omega),fun e=>hne e.symm,fun φ=>?_,fun a b=>?_⟩
  ·rw [Mg φ he,m];dsimp only;rw [Int.sub_mul,Int.add_mul];omega
  ·rw [Wx (q:=⟨p.u,p.v,p.r+k,p.c-k⟩) a b he rfl rfl];dsimp only
   split<;>split<;>split<;>split<;>omega
def Rep (N:Nat) (R:List (List Int)) (f:Int→Int→Int):Prop:=R.length=N∧∀x row,getI R x=some row→row.length=N∧∀y z,getI row y=some z→z=f x y
theorem Rep.at_ {N:Nat} {R:List (List Int)} {f:Int→Int→Int} (h:Rep N R f) {x y:Int} (hx:0≤x∧x<N) (hy:0≤y∧y<N):∃row,getI R x=some row∧getI row y=some (f x y):=by
 obtain ⟨row,hr⟩:=D7 (l:=R) (i:=x) (by rw [h.1];exact hx);obtain ⟨hl,h1⟩:=h.2 x row hr;obtain ⟨z,hz⟩:=D7 (l:=row) (i:=y) (by rw [hl];exact hy);exact ⟨row,hr,by rw [hz,h1 y z hz]⟩
theorem Rep.congr {N:Nat} {R:List (List Int)} {f g:Int→Int→Int} (h:Rep N R f) (e:∀x y,f x y=g x y):Rep N R g:=by rw [show g=f from funext fun x=>funext fun y=>(e x y).symm];exact h
theorem Rep.set {N:Nat} {R:List (List Int)} {f:Int→Int→Int} (h:Rep N R f) {x y:Int} {row:List Int} (hx:getI R x=some row) (hy:0≤y∧y<N) (z:Int):∃l R2,B7 row y z=some l∧B7 R x l=some R2∧Rep N R2 (fun a b=>if a=x∧b=y then z else f a b):=by
 obtain ⟨hl,h1⟩:=h.2 x row hx;obtain ⟨w,hw⟩:=D7 (l:=row) (i:=y) (by rw [hl];exact hy);obtain ⟨l,a1,a2,a3,a4⟩:=G9 (y:=z) hw;obtain ⟨R2,b1,b2,b3,b4⟩:=G9 (y:=l) hx;refine ⟨l,R2,a1,b1,b2.trans h.1,fun a r hr=>?_⟩
 by_cases ea:a=x
 ·subst ea;rw [b3] at hr;cases hr
  refine ⟨a2.trans hl,fun b q hq=>?_⟩
  by_cases eb:b=y
  ·subst eb;rw [a3] at hq;cases hq
   exact (if_pos ⟨rfl,rfl⟩).symm
  ·rw [a4 b eb] at hq;exact (h1 b q hq).trans (if_neg (fun e=>eb e.2)).symm
 ·rw [b4 a ea] at hr;obtain ⟨c1,c2⟩:=h.2 a r hr;exact ⟨c1,fun b q hq=>(c2 b q hq).trans (if_neg (fun e=>ea e.1)).symm⟩
end Go.Proofs.Ytbhjgebjojdohaa
namespace Go.Proofs.Ytbhjgebjojdohaa
open Go Go.RowKit Go.Eng
set_option maxRecDepth 10000
set_option linter.unusedVariables false
set_option linter.unusedSimpArgs false
def cB (bf:List Int):Nat:=(bf.filter fun z=>decide (0≤z)).length
theorem Xj (bf:List Int):cB bf≤bf.length:=List.length_filter_le _ _
theorem A2n {bf:List Int} (h:∀z∈bf,z=-1):cB bf=0:=by
 unfold cB;rw [List.length_eq_zero_iff,List.filter_eq_nil_iff];intro z hz;rw [h z hz];decide
theorem W2:∀{bf:List Int} {k:Nat} {z y:Int},bf[k]? = some z→z<0→0≤y→cB (bf.set k y)=cB bf+1
 | [],k,z,y,h,_,_=>by simp at h
 | b::bf,0,z,y,h,hz,hy=>by
  simp at h;subst h;unfold cB;rw [List.set_cons_zero,List.filter_cons,List.filter_cons,if_pos (decide_eq_true hy),if_neg (by simp;omega)];rfl
 | b::bf,k+1,z,y,h,hz,hy=>by
  simp only [List.getElem?_cons_succ] at h;have:=W2 h hz hy;unfold cB at this ⊢;rw [List.set_cons_succ,List.filter_cons,List.filter_cons]
  split
  ·rw [List.length_cons,List.length_cons,this]
  ·exact this
def mtB (bf:List Int) (x:Int):Prop:=∃z,getI bf x=some z∧0≤z
structure BT (Q:List prP) (N:Nat) (s:Int) (bf:List Int) (dep:Int→Nat):Prop where
 len:bf.length=N
 root:mtB bf s
 cnt:∀x,mtB bf x→dep x<cB bf
 tree:∀x z,getI bf x=some z→0≤z→x≠s→0<mQ Q z x∧mtB bf z∧dep z<dep x
def CB (Q:List prP) (N:Nat) (bf:List Int) (x:Int):Prop:=∀y:Int,0≤y→y<N→0<mQ Q x y→mtB bf y
theorem mtB.lt {bf:List Int} {x:Int} (h:mtB bf x):0≤x∧x<bf.length:=by
 obtain ⟨z,hz,_⟩:=h;obtain ⟨k,rfl,hk⟩:=Bm hz;have:=(List.getElem?_eq_some_iff.1 hk).1;omega
theorem BT.grow {Q:List prP} {N:Nat} {s:Int} {bf:List Int} {dep:Int→Nat} (h:BT Q N s bf dep) {u x z:Int} (hu:mtB bf u) (hx:getI bf x=some z) (hz:z<0) (hp:0<mQ Q u x) :
  ∃bf2,B7 bf x u=some bf2∧BT Q N s bf2 (fun w=>if w=x then dep u+1 else dep w)∧(∀y,mtB bf y→mtB bf2 y)∧mtB bf2 x∧(∀y,mtB bf2 y→mtB bf y∨y=x)∧cB bf2=cB bf+1:=by
 obtain ⟨bf2,a1,a2,a3,a4⟩:=G9 (y:=u) hx;have hu0:0≤u:=hu.lt.1;have nx:¬mtB bf x:=fun ⟨w,hw,h0⟩=>by rw [hx] at hw;cases hw;omega
 have hc:cB bf2=cB bf+1:=by
  obtain ⟨k,hk,hk2⟩:=Bm hx;rw [(B6 a1).2.2,hk,Int.toNat_natCast];exact W2 hk2 hz hu0
 have keep:∀y,mtB bf y→mtB bf2 y:=fun y hy=>by
  have:y≠x:=fun e=>nx (e▸hy);obtain ⟨w,hw,h0⟩:=hy;exact ⟨w,by rw [a4 y this];exact hw,h0⟩
 have back:∀y,mtB bf2 y→mtB bf y∨y=x:=fun y hy=>by
  by_cases e:y=x
  ·exact .inr e
  ·obtain ⟨w,hw,h0⟩:=hy;exact .inl ⟨w,by rw [←a4 y e];exact hw,h0⟩
 refine ⟨bf2,a1,⟨a2.trans h.len,keep s h.root,fun y hy=>?_,fun y w hw h0 hys=>?_⟩,keep,⟨u,a3,hu0⟩,back,hc⟩
 ·rw [hc];have:=h.cnt u hu
  by_cases e:y=x
  ·rw [if_pos e];omega
  ·rw [if_neg e];have:=h.cnt y ((back y hy).resolve_right e);omega
 ·by_cases e:y=x
  ·subst e;rw [a3] at hw;cases hw
   refine ⟨hp,keep u hu,?_⟩;rw [if_pos rfl,if_neg (fun e:u=y=>nx (e▸hu))];omega
  ·rw [a4 y e] at hw;obtain ⟨t1,t2,t3⟩:=h.tree y w hw h0 hys;refine ⟨t1,keep w t2,?_⟩;rw [if_neg e,if_neg (fun q:w=x=>nx (q▸t2))];exact t3
theorem A21 {N:Nat} (hN:N≤100000) {R:List (List Int)} {Q:List prP} (hR:Rep N R (mQ Q)) {u s:Int} (k3:List Int→List Int→Option (List Int)):∀(n x:Nat) (bf todo:List Int) (dep:Int→Nat),N-x<n→x≤N→BT Q N s bf dep→mtB bf u→todo.length≤cB bf →
  ∃bf2 more dep2,Ai ⟨R⟩ k3 u n (x:Int) bf todo=k3 bf2 (todo++more)∧BT Q N s bf2 dep2∧(∀y,mtB bf y→mtB bf2 y)∧(∀y:Int,(x:Int)≤y→y<N→0<mQ Q u y→mtB bf2 y)∧(∀y,mtB bf2 y→mtB bf y∨y∈more)∧(∀y∈more,mtB bf2 y)∧cB bf2=cB bf+more.length
 | 0,_,_,_,_,h,_,_,_,_=>by omega
 | n+1,x,bf,todo,dep,hn,hx,hT,hu,ht=>by
  have hlen:((R.length:Nat):Int)=(N:Int):=by rw [hR.1]
  by_cases hlt:x<N
  ·obtain ⟨row,r1,r2⟩:=hR.at_ (by have:=hu.lt;rw [hT.len] at this;exact this) (y:=(x:Int)) (by omega);obtain ⟨z,hz⟩:=D7 (l:=bf) (i:=(x:Int)) (by rw [hT.len];omega);have e0:Ai ⟨R⟩ k3 u (n+1) (x:Int) bf todo=(gd (((decide (mQ Q u x>0))==true&&true)) (getI bf (x:Int)) default).bind fun u857 =>
     bif (bif (decide (mQ Q u x>0)) then (decide (u857<0)) else false) then ((getI bf (x:Int)).bind fun u858 =>
     (B7 bf (x:Int) u).bind fun l859 =>
     (apd 8 todo ([(x:Int)])).bind fun l861 =>
     B3 (x:Int) (Ai ⟨R⟩ k3 u n) l859 l861) else (B3 (x:Int) (Ai ⟨R⟩ k3 u n) bf todo):=by
    rw [Ai,Cw];dsimp only;rw [hlen,decide_eq_true (by omega:(x:Int)<(N:Int)),cond_true,A5 r1,A5 r2]
   have hck:ck ((x:Int)+1)=some ((x+1:Nat):Int):=by rw [ckJ (by omega),Int.natCast_add];rfl
   have skip:(0<mQ Q u x→mtB bf x)→Ai ⟨R⟩ k3 u (n+1) (x:Int) bf todo=B3 (x:Int) (Ai ⟨R⟩ k3 u n) bf todo→∃bf2 more dep2,Ai ⟨R⟩ k3 u (n+1) (x:Int) bf todo=k3 bf2 (todo++more)∧BT Q N s bf2 dep2∧(∀y,mtB bf y→mtB bf2 y)∧(∀y:Int,(x:Int)≤y→y<N→0<mQ Q u y→mtB bf2 y)∧(∀y,mtB bf2 y→mtB bf y∨y∈more)∧(∀y∈more,mtB bf2 y)∧cB bf2=cB bf+more.length:=by
    intro hm e;obtain ⟨bf2,more,dep2,g1,g2,g3,g4,g5,g6,g7⟩:=A21 hN hR k3 n (x+1) bf todo dep (by omega) (by omega) hT hu ht;refine ⟨bf2,more,dep2,?_,g2,g3,fun y hy1 hy2 hy3=>?_,g5,g6,g7⟩
    ·rw [e,B3,A5 hck,g1]
    ·by_cases ey:y=(x:Int)
     ·rw [ey] at hy3 ⊢;exact g3 _ (hm hy3)
     ·exact g4 y (by omega) hy2 hy3
   by_cases hp:0<mQ Q u x
   ·by_cases hz0:z<0
    ·obtain ⟨bf1,b1,b2,b3,b4,b5,b6⟩:=hT.grow hu hz hz0 hp;have hcl:cB bf1≤N:=by have:=Xj bf1;rw [b2.len] at this;exact this
     obtain ⟨bf2,more,dep2,g1,g2,g3,g4,g5,g6,g7⟩:=A21 hN hR k3 n (x+1) bf1 (todo++[(x:Int)]) _ (by omega) (by omega) b2 (b3 u hu) (by rw [List.length_append,List.length_singleton,b6];omega);refine ⟨bf2,(x:Int)::more,dep2,?_,g2,fun y hy=>g3 y (b3 y hy),fun y hy1 hy2 hy3=>?_,fun y hy=>?_,fun y hy=>?_,?_⟩
     ·rw [e0,A5 (show gd (((decide (mQ Q u x>0))==true&&true)) (getI bf (x:Int)) default=some z by rw [decide_eq_true hp];exact hz),decide_eq_true hp,cond_true,decide_eq_true hz0,cond_true,A5 hz,A5 b1];rw [A5 (show apd 8 todo [(x:Int)]=some (todo++[(x:Int)]) by unfold apd;rw [if_pos ⟨by rw [List.length_singleton];omega,by rw [List.length_singleton];omega⟩])];rw [B3,A5 hck,g1,List.append_assoc];rfl
     ·by_cases ey:y=(x:Int)
      ·rw [ey];exact g3 _ b4
      ·exact g4 y (by omega) hy2 hy3
     ·rcases g5 y hy with h|h
      ·rcases b5 y h with h|h
       ·exact .inl h
       ·exact .inr (by rw [h];exact List.mem_cons_self ..)
      ·exact .inr (List.mem_cons_of_mem _ h)
     ·rcases List.mem_cons.1 hy with rfl|hy
      ·exact g3 _ b4
      ·exact g6 y hy
     ·rw [g7,b6,List.length_cons];omega
    ·refine skip (fun _=>⟨z,hz,by omega⟩) ?_;rw [e0,A5 (show gd (((decide (mQ Q u x>0))==true&&true)) (getI bf (x:Int)) default=some z by rw [decide_eq_true hp];exact hz),decide_eq_true hp,cond_true,decide_eq_false hz0,cond_false]
   ·refine skip (fun h=>absurd h hp) ?_;rw [e0,A5 (show gd (((decide (mQ Q u x>0))==true&&true)) (getI bf (x:Int)) default=some default by rw [decide_eq_false hp];rfl),decide_eq_false hp,cond_false,cond_false]
  ·refine ⟨bf,[],dep,?_,hT,fun _ h=>h,fun y h1 h2=>by omega,fun _ h=>.inl h,fun y h=>(by cases h),rfl⟩
   rw [Ai,Cw];dsimp only;rw [hlen,decide_eq_false (by omega:¬(x:Int)<(N:Int)),cond_false,List.append_nil]
theorem A64 {N:Nat} (hN:N≤100000) {R:List (List Int)} {Q:List prP} (hR:Rep N R (mQ Q)) {s t:Int} (ht:0≤t∧t<N) {F:Nat} (hF:N<F):∀(G:Nat) (bf todo:List Int) (dep:Int→Nat),BT Q N s bf dep→(∀y∈todo,mtB bf y)→(∀y,mtB bf y→y∈todo∨CB Q N bf y)→todo.length≤cB bf→todo.length+(N-cB bf)<G →
  ∃bf2 dep2,B4 F ⟨R⟩ t G bf todo=some bf2∧BT Q N s bf2 dep2∧(mtB bf2 t∨((∃z,getI bf2 t=some z∧z<0)∧∀y,mtB bf2 y→CB Q N bf2 y))
 | 0,_,_,_,_,_,_,_,h=>by omega
 | G+1,bf,[],dep,hT,h1,h2,h3,hG=>by
  obtain ⟨z,hz⟩:=D7 (l:=bf) (i:=t) (by rw [hT.len];exact ht);refine ⟨bf,dep,rfl,hT,?_⟩
  by_cases h0:0≤z
  ·exact .inl ⟨z,hz,h0⟩
  ·exact .inr ⟨⟨z,hz,by omega⟩,fun y hy=>(h2 y hy).resolve_left (by simp)⟩
 | G+1,bf,x::rest,dep,hT,h1,h2,h3,hG=>by
  obtain ⟨z,hz⟩:=D7 (l:=bf) (i:=t) (by rw [hT.len];exact ht);have hpos:decide ((((x::rest).length:Nat):Int)>0)=true:=decide_eq_true (by rw [List.length_cons];omega);have e0:B4 F ⟨R⟩ t (G+1) bf (x::rest)=bif decide (z<0) then ((getI (x::rest) 0).bind fun u733 =>
    (Hp (x::rest) 1 (((x::rest).length:Nat):Int)).bind fun l734 =>
    Ai ⟨R⟩ (B4 F ⟨R⟩ t G) u733 F 0 bf l734) else (Dy bf):=by
   rw [B4,Dx,hpos,A5 (show gd ((true==true&&true)) (getI bf t) default=some z from hz),cond_true]
  by_cases h0:z<0
  ·have hx:=h1 x (List.mem_cons_self ..);have hcl:cB bf≤N:=by have:=Xj bf;rw [hT.len] at this;exact this
   rw [List.length_cons] at h3 hG;obtain ⟨bf2,more,dep2,g1,g2,g3,g4,g5,g6,g7⟩:=A21 hN hR (u:=x) (s:=s) (B4 F ⟨R⟩ t G) F 0 bf rest dep (by omega) (by omega) hT hx (by omega);have hcl2:cB bf2≤N:=by have:=Xj bf2;rw [g2.len] at this;exact this
   have hcx:CB Q N bf2 x:=fun y hy1 hy2 hy3=>g4 y (by simpa using hy1) hy2 hy3;obtain ⟨bf3,dep3,f1,f2,f3⟩:=A64 hN hR ht hF G bf2 (rest++more) dep2 g2 (fun y hy=>by
     rcases List.mem_append.1 hy with hy|hy
     ·exact g3 y (h1 y (List.mem_cons_of_mem _ hy))
     ·exact g6 y hy) (fun y hy=>by
     rcases g5 y hy with h|h
     ·rcases h2 y h with h|h
      ·rcases List.mem_cons.1 h with rfl|h
       ·exact .inr hcx
       ·exact .inl (List.mem_append_left _ h)
      ·exact .inr fun w a b c=>g3 w (h w a b c)
     ·exact .inl (List.mem_append_right _ h)) (by rw [List.length_append];omega) (by rw [List.length_append];omega)
   refine ⟨bf3,dep3,?_,f2,f3⟩;rw [e0,decide_eq_true h0,cond_true,A5 (show getI (x::rest) 0=some x from rfl)];rw [A5 (show Hp (x::rest) 1 (((x::rest).length:Nat):Int)=some rest by
    unfold Hp;rw [if_pos ⟨by omega,by rw [List.length_cons];omega,Int.le_refl _⟩]
    congr 1
    rw [Int.toNat_natCast];show (rest.take _)=_;rw [List.take_of_length_le (by rw [List.length_cons];omega)])]
   exact g1.trans f1
  ·refine ⟨bf,dep,?_,hT,.inl ⟨z,hz,by omega⟩⟩;rw [e0,decide_eq_false h0,cond_false];rfl
theorem A3v {N:Nat} (hN:N≤100000) {R:List (List Int)} {F:Nat} {s t:Int}:∀(n x:Nat) (bf:List Int),bf.length=N→(∀y:Nat,y<x→bf[y]? = some (-1))→x≤N→N-x<n→∃bf2,Bj F ⟨R⟩ s t n bf (x:Int)=Cz F ⟨R⟩ s t bf2∧bf2.length=N∧∀z∈bf2,z=-1
 | 0,_,_,_,_,_,h=>by omega
 | n+1,x,bf,hl,h1,hx,hn=>by
  by_cases hlt:x<N
  ·obtain ⟨z,hz⟩:=D7 (l:=bf) (i:=(x:Int)) (by omega);have hz2:B7 bf (x:Int) (-1)=some (bf.set x (-1)):=by unfold B7;rw [if_pos ⟨by omega,by omega⟩,Int.toNat_natCast]
   obtain ⟨bf2,g1,g2,g3⟩:=A3v hN (R:=R) (F:=F) (s:=s) (t:=t) n (x+1) (bf.set x (-1)) (by rw [List.length_set];exact hl) (fun y hy=>by
    by_cases e:x=y
    ·subst e;rw [List.getElem?_set_self (by omega)]
    ·rw [List.getElem?_set_ne e];exact h1 y (by omega)) (by omega) (by omega)
   refine ⟨bf2,?_,g2,g3⟩;rw [Bj,Cy,decide_eq_true (by omega:(x:Int)<((bf.length:Nat):Int)),cond_true,A5 hz,A5 hz2];rw [A5 (show ck ((x:Int)+1)=some ((x+1:Nat):Int) by rw [ckJ (by omega),Int.natCast_add];rfl),g1]
  ·refine ⟨bf,?_,hl,fun z hz=>?_⟩
   ·rw [Bj,Cy,decide_eq_false (by omega:¬(x:Int)<((bf.length:Nat):Int)),cond_false]
   ·obtain ⟨y,hy⟩:=List.mem_iff_getElem?.1 hz;have:=(List.getElem?_eq_some_iff.1 hy).1;rw [h1 y (by omega)] at hy;exact (Option.some.inj hy).symm
theorem A6j {N:Nat} (hN:N≤100000) {R:List (List Int)} {Q:List prP} (hR:Rep N R (mQ Q)) {s t:Int} (hs:0≤s∧s<N) (ht:0≤t∧t<N) {F:Nat} (hF:N+1<F) :
  ∃bf dep,E0 F ⟨R⟩ s t=some bf∧BT Q N s bf dep∧(mtB bf t∨((∃z,getI bf t=some z∧z<0)∧∀y,mtB bf y→CB Q N bf y)):=by
 have hlen:((R.length:Nat):Int)=(N:Int):=by rw [hR.1]
 obtain ⟨bf0,a1,a2,a3⟩:=A3v hN (R:=R) (F:=F) (s:=s) (t:=t) F 0 (List.replicate N 0) List.length_replicate (fun y h=>by omega) (by omega) (by omega);obtain ⟨z,hz⟩:=D7 (l:=bf0) (i:=s) (by rw [a2];exact hs);obtain ⟨bf1,b1,b2,b3,b4⟩:=G9 (y:=s) hz;have hzn:z=-1:=by
  obtain ⟨k,_,hk⟩:=Bm hz;exact a3 z (List.mem_of_getElem? hk)
 have hc:cB bf1=1:=by
  obtain ⟨k,hk,hk2⟩:=Bm hz;rw [(B6 b1).2.2,hk,Int.toNat_natCast,W2 hk2 (by omega) (by omega),A2n a3]
 have only:∀y,mtB bf1 y→y=s:=fun y ⟨w,hw,h0⟩=>by
  by_cases e:y=s
  ·exact e
  ·rw [b4 y e] at hw;obtain ⟨k,_,hk⟩:=Bm hw;have:=a3 w (List.mem_of_getElem? hk);omega
 obtain ⟨bf,dep,c1,c2,c3⟩:=A64 hN hR (s:=s) ht (by omega:N<F) F bf1 [s] (fun _=>0) ⟨b2.trans a2,⟨s,b3,hs.1⟩,fun y _=>by rw [hc];omega,fun y w hw h0 hys=>absurd (only y ⟨w,hw,h0⟩) hys⟩ (fun y hy=>by simp at hy;subst hy;exact ⟨y,b3,hs.1⟩) (fun y hy=>.inl (by rw [only y hy];exact List.mem_cons_self ..)) (by rw [hc];exact Nat.le_refl _) (by rw [hc,List.length_singleton];omega);refine ⟨bf,dep,?_,c2,c3⟩;rw [E0];dsimp only;rw [A5 (show mkI 8 ((R.length:Nat):Int) (0:Int)=some (List.replicate N (0:Int)) by unfold mkI;rw [hlen,if_pos ⟨by omega,by rw [Int.toNat_natCast];omega,by omega⟩,Int.toNat_natCast])];refine Eq.trans a1 ?_;rw [Cz,A5 hz,A5 b1];exact c1
end Go.Proofs.Ytbhjgebjojdohaa
namespace Go.Proofs.Ytbhjgebjojdohaa
open Go Go.RowKit Go.Eng
set_option maxRecDepth 10000
set_option linter.unusedVariables false
set_option linter.unusedSimpArgs false
inductive PW (Q:List prP) (bf:List Int) (s k:Int) (dep:Int→Nat):Int→Prop
 | nil:PW Q bf s k dep s
 | cons {x y:Int}:x≠s→getI bf x=some y→k≤mQ Q y x→dep y<dep x→PW Q bf s k dep y→PW Q bf s k dep x
theorem PW.keep {Q Q2:List prP} {bf:List Int} {s k:Int} {dep:Int→Nat} {z x:Int} (hr:∀a b,b≠z→mQ Q a b≤mQ Q2 a b) (h:PW Q bf s k dep x) (hz:dep x<dep z):PW Q2 bf s k dep x:=by
 induction h with
 | nil=>exact .nil
 | cons h1 h2 h3 h4 _ ih =>
  rename_i x y _
  exact .cons h1 h2 (Int.le_trans h3 (hr y x (fun e=>by rw [e] at hz;omega))) h4 (ih (by omega))
theorem A11 {N:Nat} {R:List (List Int)} {Q:List prP} (hR:Rep N R (mQ Q)) {s t:Int} {F:Nat} {bf:List Int} {dep:Int→Nat} (hT:BT Q N s bf dep) (k1:List (List Int)→Option ref03_Net):∀(n:Nat) (x k:Int),mtB bf x→dep x<n→1≤k→∃k2,Bi F s t R k1 bf n k x=Cv F s t R k1 bf k2∧1≤k2∧k2≤k∧PW Q bf s k2 dep x
 | 0,_,_,_,h,_=>by omega
 | n+1,x,k,hx,hd,hk=>by
  by_cases e:x=s
  ·subst e;refine ⟨k,?_,hk,Int.le_refl _,.nil⟩;rw [Bi,Cu,show (x != x)=false by simp,cond_false]
  ·obtain ⟨y,hy,h0⟩:=hx;obtain ⟨t1,t2,t3⟩:=hT.tree x y hy h0 e;have hxl:=mtB.lt ⟨y,hy,h0⟩;rw [hT.len] at hxl;obtain ⟨row,r1,r2⟩:=hR.at_ (by have:=t2.lt;rw [hT.len] at this;exact this) hxl;obtain ⟨k2,g1,g2,g3,g4⟩:=A11 hR (t:=t) (F:=F) hT k1 n y (if mQ Q y x<k then mQ Q y x else k) t2 (by omega) (by split<;>omega);refine ⟨k2,?_,g2,by split at g3<;>omega,.cons e hy (by split at g3<;>omega) t3 g4⟩;rw [Bi,Cu,show (x != s)=true by simp [e],cond_true,A5 hy,A5 r1,A5 r2,A5 hy];exact g1
theorem A24 {N:Nat} {C:Int} (hC:0≤C∧C≤1000000000000000) {s k:Int} (hk:1≤k) {bf:List Int} (hbl:bf.length=N) {dep:Int→Nat} (k1:List (List Int)→Option ref03_Net):∀(n:Nat) (x:Int) (R:List (List Int)) (Q:List prP),Rep N R (mQ Q)→GQ N C Q→DQ Q→PW Q bf s k dep x→dep x<n →
  ∃R2 Q2,Bh s k1 bf k n R x=k1 R2∧Rep N R2 (mQ Q2)∧Sm Q Q2∧NN Q2∧∀φ,WQ φ Q2=WQ φ Q+k*(φ s-φ x)
 | 0,_,_,_,_,_,_,_,h=>by omega
 | n+1,x,R,Q,hR,hg,hd,hp,hn=>by
  cases hp with
  | nil =>
   refine ⟨R,Q,?_,hR,Sm.rfl Q,hg.nn,fun φ=>by rw [Int.sub_self,Int.mul_zero,Int.add_zero]⟩;rw [Bh,Ct,show (s != s)=false by simp,cond_false]
  | cons h1 h2 h3 h4 h5 =>
   rename_i y
   obtain ⟨Q1,q1,q2,q3,q4,q5⟩:=A6t hd hg.nn (k:=k) (by omega) (by omega:0<mQ Q y x) h3;obtain ⟨b1,b2,b3⟩:=A6d hg hd hC.1 y x;have hxl:0≤x∧x<(N:Int):=by
    obtain ⟨i,rfl,hi⟩:=Bm h2;have:=(List.getElem?_eq_some_iff.1 hi).1;omega
   have hyl:0≤y∧y<(N:Int):=by
    obtain ⟨e,p,he,hc⟩:=Ww (by omega:mQ Q y x≠0);have:=hg p (List.mem_of_getElem? he);rcases hc with ⟨rfl,rfl⟩|⟨rfl,rfl⟩
    ·exact this.1
    ·exact this.2.1
   obtain ⟨row,r1,r2⟩:=hR.at_ hyl hxl;obtain ⟨l1,R1,s1,s2,s3⟩:=hR.set r1 hxl (mQ Q y x-k);obtain ⟨row2,r3,r4⟩:=s3.at_ hxl hyl;rw [if_neg (fun e=>q3 e.1.symm)] at r4;obtain ⟨l2,R2,s4,s5,s6⟩:=s3.set r3 hyl (mQ Q x y+k);have hR2:Rep N R2 (mQ Q1):=s6.congr fun a b=>by
    rw [q5]
    by_cases c1:a=x∧b=y
    ·rw [if_pos c1,if_pos c1,if_neg (fun e=>q3 (e.1.symm.trans c1.1)),c1.1,c1.2];omega
    ·rw [if_neg c1,if_neg c1]
     by_cases c2:a=y∧b=x
     ·rw [if_pos c2,if_pos c2,c2.1,c2.2];omega
     ·rw [if_neg c2,if_neg c2];omega
   have hp2:PW Q1 bf s k dep y:=h5.keep (z:=x) (fun a b hb=>by
    rw [q5,if_neg (fun e=>hb e.2)]
    split<;>omega) h4
   obtain ⟨R3,Q3,g1,g2,g3,g4,g5⟩:=A24 hC hk hbl k1 n y R2 Q1 hR2 (hg.sm q1 q2) (hd.sm q1) hp2 (by omega);refine ⟨R3,Q3,?_,g2,q1.tr g3,g4,fun φ=>?_⟩
   ·rw [Bh,Ct,show (x != s)=true by simp [h1],cond_true,A5 h2,A5 r1,A5 r2,A5 (ckJ (by omega)),A5 r2,A5 s1,A5 s2,A5 r3,A5 h2,A5 r4,A5 (ckJ (by omega)),A5 r4,A5 s4,A5 s5,A5 h2];exact g1
   ·rw [g5,q4];have a1:k*(φ y-φ x)=k*φ y-k*φ x:=Int.mul_sub _ _ _;have a2:k*(φ s-φ y)=k*φ s-k*φ y:=Int.mul_sub _ _ _;have a3:k*(φ s-φ x)=k*φ s-k*φ x:=Int.mul_sub _ _ _;omega
open Classical in
theorem A3y {N:Nat} (hN:N≤100000) {C:Int} (hC:0≤C∧C≤1000000000000000) {s t:Int} (hs:0≤s∧s<N) (ht:0≤t∧t<N) {F:Nat} (hF:N+1<F) (B:Int):∀(G:Nat) (R:List (List Int)) (Q:List prP),Rep N R (mQ Q)→GQ N C Q→DQ Q→s≠t→(∀Q2,Sm Q Q2→NN Q2→WQ (at1 s) Q2≤B)→(B-WQ (at1 s) Q).toNat<G →
  ∃(R2:List (List Int)) (Q2:List prP) (val:Int) (S:Int→Bool),Az F s t G R=some ⟨R2⟩∧Rep N R2 (mQ Q2)∧Sm Q Q2∧NN Q2∧(∀φ,WQ φ Q2=WQ φ Q+val*(φ s-φ t))∧S s=true∧S t=false∧∀p∈Q2,(S p.u=true→S p.v=false→p.r=0)∧(S p.v=true→S p.u=false→p.c=0)
 | 0,_,_,_,_,_,_,_,h=>by omega
 | G+1,R,Q,hR,hg,hd,hst,hB,hG=>by
  obtain ⟨bf,dep,a1,a2,a3⟩:=A6j hN hR hs ht hF;rcases a3 with ⟨y,hy,h0⟩|⟨⟨z,hz,hz0⟩,hcl⟩
  ·obtain ⟨t1,t2,t3⟩:=a2.tree t y hy h0 (fun e=>hst e.symm);obtain ⟨row,r1,r2⟩:=hR.at_ (by have:=t2.lt;rw [a2.len] at this;exact this) ht;have hc:cB bf≤N:=by have:=Xj bf;rw [a2.len] at this;exact this
   have hdep:dep t<F:=by have:=a2.cnt t ⟨y,hy,h0⟩;omega
   obtain ⟨k,k1,k2,k3,k4⟩:=A11 hR (t:=t) (F:=F) a2 (Az F s t G) F t (mQ Q y t) ⟨y,hy,h0⟩ hdep (by omega);obtain ⟨R1,Q1,g1,g2,g3,g4,g5⟩:=A24 hC k2 a2.len (Az F s t G) F t R Q hR hg hd k4 hdep;have w:=g5 (at1 s);rw [Fi,As (fun e=>hst e.symm)] at w;have hb1:=hB Q1 g3 g4;obtain ⟨R2,Q2,val,S,f1,f2,f3,f4,f5,f6⟩:=A3y hN hC hs ht hF B G R1 Q1 g2 (hg.sm g3 g4) (hd.sm g3) hst (fun Q2 h1 h2=>hB Q2 (g3.tr h1) h2) (by omega);refine ⟨R2,Q2,k+val,S,?_,f2,g3.tr f3,f4,fun φ=>?_,f6⟩
   ·rw [Az,Cs,A5 a1,A5 hy,decide_eq_false (by omega:¬y<0),cond_false,A5 hy,A5 r1,A5 r2,k1,Cv,g1];exact f1
   ·rw [f5,g5,Int.add_mul];omega
  ·refine ⟨R,Q,0,fun y=>decide (mtB bf y),?_,hR,Sm.rfl Q,hg.nn,fun φ=>by rw [Int.zero_mul,Int.add_zero],decide_eq_true a2.root,decide_eq_false fun ⟨w,hw,h0⟩=>by rw [hz] at hw;cases hw;omega,fun p hp=>?_⟩
   ·rw [Az,Cs,A5 a1,A5 hz,decide_eq_true hz0,cond_true]
   ·obtain ⟨e,he⟩:=List.mem_iff_getElem?.1 hp;obtain ⟨m1,m2⟩:=Qd hd he;obtain ⟨n1,n2,n3,n4,_⟩:=hg p hp;refine ⟨fun q1 q2=>?_,fun q1 q2=>?_⟩
    ·by_cases h:0<p.r
     ·exact absurd (hcl p.u (of_decide_eq_true q1) p.v n2.1 n2.2 (by rw [m1];exact h)) (of_decide_eq_false q2)
     ·omega
    ·by_cases h:0<p.c
     ·exact absurd (hcl p.v (of_decide_eq_true q1) p.u n1.1 n1.2 (by rw [m2];exact h)) (of_decide_eq_false q2)
     ·omega
end Go.Proofs.Ytbhjgebjojdohaa
namespace Go.Proofs.Ytbhjgebjojdohaa
open Go Go.RowKit Go.Eng
set_option maxRecDepth 10000
set_option linter.unusedVariables false
set_option linter.unusedSimpArgs false
def lfS:List cnP→Int→Int
 | [],_=>0
 | c::M,i=>(if c.v=i then c.lo else 0)-(if c.u=i then c.lo else 0)+lfS M i
def Dw (x:Int):Int:=if x>0 then x else 0
def pQ (M:List cnP):List prP:=M.map fun c=>⟨c.u,c.v,c.hi-c.lo,0⟩
def hQ (L:Int→Int) (s t:Int):Nat→Nat→List prP
 | _,0=>[]
 | k,l+1=>⟨s,k,Dw (L k),0⟩::⟨k,t,Dw (- L k),0⟩::hQ L s t (k+1) l
def hR (L:Int→Int) (s t:Int):Nat→Nat→List prP
 | _,0=>[]
 | k,l+1=>⟨s,k,0,Dw (L k)⟩::⟨k,t,0,Dw (- L k)⟩::hR L s t (k+1) l
def pR:List cnP→List Int→List prP
 | c::M,x::f=>⟨c.u,c.v,c.hi-x,x-c.lo⟩::pR M f
 | _,_=>[]
def loV (φ:Int→Int):List cnP→Int
 | []=>0
 | c::M=>c.lo*(φ c.v-φ c.u)+loV φ M
theorem Y0:∀M:List cnP,loV (fun _=>1) M=0
 | []=>rfl
 | c::M=>by rw [loV,Y0 M];omega
theorem Xx (L:Int→Int) (s t:Int):∀l k:Nat,hQ L s t k (l+1)=hQ L s t k l++[⟨s,((k+l:Nat):Int),Dw (L ((k+l:Nat):Int)),0⟩,⟨((k+l:Nat):Int),t,Dw (- L ((k+l:Nat):Int)),0⟩]
 | 0,k=>rfl
 | l+1,k=>by
  rw [hQ,Xx L s t l (k+1),hQ,show k+1+l=k+(l+1) by omega];rfl
theorem Sm.app:∀{A A2 B B2:List prP},Sm A A2→Sm B B2→Sm (A++B) (A2++B2)
 | [],[],B,B2,_,h=>h
 | [],_::_,_,_,h,_=>by have:=h.len;simp at this
 | _::_,[],_,_,h,_=>by have:=h.len;simp at this
 | p::A,q::A2,B,B2,h,k=>by
  obtain ⟨h1,e1,e2,e3⟩:=h.tail;exact (Sm.app h1 k).cons e1 e2 e3
theorem Sm.split:∀{A B Q:List prP},Sm (A++B) Q→∃A2 B2,Q=A2++B2∧Sm A A2∧Sm B B2
 | [],B,Q,h=>⟨[],Q,by rfl,Sm.rfl [],h⟩
 | p::A,B,[],h=>by have:=h.len;simp at this
 | p::A,B,q::Q,h=>by
  obtain ⟨h1,e1,e2,e3⟩:=Sm.tail h;obtain ⟨A2,B2,rfl,g1,g2⟩:=Sm.split h1;exact ⟨q::A2,B2,by rfl,g1.cons e1 e2 e3,g2⟩
theorem NN.app {A B:List prP} (h:NN A) (k:NN B):NN (A++B):=fun p hp=>(List.mem_append.1 hp).elim (h p) (k p)
theorem A1t {n:Nat} {e0 e1:Int}:∀{M:List cnP} {f:List Int},(∀c∈M,okC n e0 e1 c)→bdF M f→Sm (pQ M) (pR M f)∧NN (pR M f)∧∀φ,WQ φ (pR M f)=WQ φ (pQ M)+loV φ M-cirV φ M f
 | [],[],_,_=>⟨Sm.rfl [],fun p hp=>(by cases hp),fun φ=>by show (0:Int)=0+0-0;omega⟩
 | [],_::_,_,h=>h.elim
 | _::_,[],_,h=>h.elim
 | c::M,x::f,hk,h=>by
  obtain ⟨b1,b2,b3⟩:=h;obtain ⟨i1,i2,i3⟩:=A1t (fun q hq=>hk q (List.mem_cons_of_mem _ hq)) b3;refine ⟨i1.cons rfl rfl (by dsimp only;omega),fun p hp=>?_,fun φ=>?_⟩
  ·rw [pR] at hp;rcases List.mem_cons.1 hp with rfl|hp
   ·dsimp only;omega
   ·exact i2 p hp
  ·show WQ φ (_::_)=WQ φ (_::pQ M)+loV φ (c::M)-cirV φ (c::M) (x::f);rw [Ah,Ah,i3,loV,cirV];dsimp only;have m1:(c.hi-x)*φ c.v=c.hi*φ c.v-x*φ c.v:=Int.sub_mul _ _ _;have m2:(x-c.lo)*φ c.u=x*φ c.u-c.lo*φ c.u:=Int.sub_mul _ _ _;have m3:(c.hi-c.lo)*φ c.v=c.hi*φ c.v-c.lo*φ c.v:=Int.sub_mul _ _ _;have m4:x*(φ c.v-φ c.u)=x*φ c.v-x*φ c.u:=Int.mul_sub _ _ _;have m5:c.lo*(φ c.v-φ c.u)=c.lo*φ c.v-c.lo*φ c.u:=Int.mul_sub _ _ _;rw [m1,m2,m3,m4,m5,Int.zero_mul];omega
theorem A1s:∀{M:List cnP} {A:List prP},Sm (pQ M) A→NN A→∃f,A=pR M f∧bdF M f
 | [],[],_,_=>⟨[],rfl,trivial⟩
 | [],_::_,h,_=>by have:=h.len;simp [pQ] at this
 | c::M,[],h,_=>by have:=h.len;simp [pQ] at this
 | c::M,p::A,h,hn=>by
  have h':Sm (⟨c.u,c.v,c.hi-c.lo,0⟩::pQ M) (p::A):=h;obtain ⟨t1,a1,a2,a3⟩:=h'.tail;dsimp only at a1 a2 a3;obtain ⟨f,q1,q2⟩:=A1s t1 fun q hq=>hn q (List.mem_cons_of_mem _ hq);have np:=hn p (List.mem_cons_self ..);refine ⟨(c.hi-p.r)::f,?_,by omega,by omega,q2⟩;rw [pR,←q1];rcases p with ⟨pu,pv,pr,pc⟩
  dsimp only at *;subst a1;subst a2;have x1:pr=c.hi-(c.hi-pr):=by omega
  have x2:pc=c.hi-pr-c.lo:=by omega
  rw [←x1,←x2]
theorem K2 (x:Int):Dw x-Dw (-x)=x∧0≤Dw x:=by unfold Dw;split<;>split<;>omega
theorem A42 (L:Int→Int) (s t:Int):∀l k:Nat,Sm (hQ L s t k l) (hR L s t k l)∧NN (hR L s t k l)∧∀φ,WQ φ (hR L s t k l)=WQ φ (hQ L s t k l)+Cf (fun i=>Dw (L i)) k l*φ s-Cf (fun i=>Dw (- L i)) k l*φ t-Cf (fun i=>L i*φ (i:Int)) k l
 | 0,k=>⟨Sm.rfl [],fun p hp=>(by cases hp),fun φ=>by show (0:Int)=0+0*_-0*_-0;omega⟩
 | l+1,k=>by
  obtain ⟨i1,i2,i3⟩:=A42 L s t l (k+1);have p1:=K2 (L k);have p2:=(K2 (- L k)).2;refine ⟨Sm.cons (p:=⟨s,k,Dw (L k),0⟩) (q:=⟨s,k,0,Dw (L k)⟩) (Sm.cons (p:=⟨k,t,Dw (- L k),0⟩) (q:=⟨k,t,0,Dw (- L k)⟩) i1 rfl rfl (by dsimp only;omega)) rfl rfl (by dsimp only;omega),fun p hp=>?_,fun φ=>?_⟩
  ·rw [hR] at hp;rcases List.mem_cons.1 hp with rfl|hp
   ·exact ⟨Int.le_refl _,p1.2⟩
   ·rcases List.mem_cons.1 hp with rfl|hp
    ·exact ⟨Int.le_refl _,p2⟩
    ·exact i2 p hp
  ·rw [hR,hQ,Ah,Ah,Ah,Ah,i3,Cf,Cf,Cf];dsimp only;have m1:Dw (L k)*φ (k:Int)-Dw (- L k)*φ (k:Int)=L k*φ (k:Int):=by rw [←Int.sub_mul,p1.1]
   rw [Int.add_mul,Int.add_mul,Int.zero_mul,Int.zero_mul,Int.zero_mul];omega
theorem K8 {g h:Nat→Int}:∀(l k:Nat),(∀i,k≤i→i<k+l→g i=h i)→Cf g k l=Cf h k l
 | 0,_,_=>rfl
 | l+1,k,e=>by rw [Cf,Cf,e k (Nat.le_refl _) (by omega),K8 l (k+1) fun i a b=>e i (by omega) (by omega)]
theorem Sg {g h:Nat→Int} (e:∀i,g i≤h i):∀(l k:Nat),Cf g k l≤Cf h k l
 | 0,_=>Int.le_refl _
 | l+1,k=>by rw [Cf,Cf];have:=e k;have:=Sg e l (k+1);omega
theorem Ra {K:Nat} {z:Int} (hz:0≤z∧z<K) (y:Int) (φ:Int→Int):Cf (fun i=>(if z=(i:Int) then y else 0)*φ (i:Int)) 0 K=y*φ z:=by
 have:=J0 (fun _=>y) (fun i=>if z=(i:Int) then φ (i:Int) else 0) z.toNat K 0 (fun i hi=>if_neg (fun e=>hi (by omega)));rw [if_pos ⟨Nat.zero_le _,by omega⟩,if_pos (by omega),show ((z.toNat:Nat):Int)=z by omega] at this;rw [←this];refine K8 K 0 fun i _ _=>?_
 split<;>simp
theorem A14 {K:Nat} (φ:Int→Int):∀{M:List cnP},(∀c∈M,(0≤c.u∧c.u<K)∧(0≤c.v∧c.v<K))→Cf (fun i=>lfS M i*φ (i:Int)) 0 K=loV φ M
 | [],_=>by rw [G5];rfl;intro i _ _;show 0*_=_;rw [Int.zero_mul]
 | c::M,h=>by
  obtain ⟨h1,h2⟩:=h c (List.mem_cons_self ..);have ih:=A14 φ fun q hq=>h q (List.mem_cons_of_mem _ hq);have e1:=Ra h2 c.lo φ;have e2:=Ra h1 (- c.lo) φ;rw [loV,←ih,Int.mul_sub];rw [Int.neg_mul] at e2;have:c.lo*φ c.v-c.lo*φ c.u=c.lo*φ c.v + - (c.lo*φ c.u):=by omega
  rw [this,←e1,←e2,←Hz,←Hz];refine K8 K 0 fun i _ _=>?_;rw [lfS]
  split<;>split<;>simp only [Int.add_mul,Int.sub_mul,Int.neg_mul,Int.zero_mul,Int.zero_sub,Int.sub_zero,Int.zero_add,Int.add_zero]<;>omega
def inS:List cnP→Int→Int
 | [],_=>0
 | c::M,i=>(if c.v=i then c.lo else 0)+inS M i
theorem A0x:∀{M:List cnP},(∀c∈M,0≤c.lo)→∀i,0≤inS M i∧lfS M i≤inS M i
 | [],_,_=>⟨Int.le_refl _,Int.le_refl _⟩
 | c::M,h,i=>by
  have:=A0x (fun q hq=>h q (List.mem_cons_of_mem _ hq)) i;have:=h c (List.mem_cons_self ..);rw [inS,lfS]
  split<;>split<;>omega
theorem Xz {K:Nat}:∀{M:List cnP},(∀c∈M,(0≤c.v∧c.v<K))→Cf (fun i=>inS M i) 0 K=sumLo M
 | [],_=>G5 _ _ _ fun _ _ _=>rfl
 | c::M,h=>by
  have e1:=Ra (h c (List.mem_cons_self ..)) c.lo (fun _=>1);rw [Int.mul_one] at e1;rw [Fa,←Xz fun q hq=>h q (List.mem_cons_of_mem _ hq),←e1,←Hz];refine K8 K 0 fun i _ _=>?_;rw [inS,Int.mul_one]
theorem A31 {K:Nat} {M:List cnP} (hl:∀c∈M,0≤c.lo) (hv:∀c∈M,(0≤c.v∧c.v<K)):Cf (fun i=>Dw (lfS M i)) 0 K≤sumLo M:=by
 rw [←Xz hv];refine Sg (fun i=>?_) K 0;have:=A0x hl (i:Int);unfold Dw
 split<;>omega
theorem Zq {z:Int}:∀{A:List prP},(∀p∈A,p.u≠z∧p.v≠z)→WQ (at1 z) A=0
 | [],_=>rfl
 | p::A,h=>by
  obtain ⟨h1,h2⟩:=h p (List.mem_cons_self ..);rw [Ah,As h1,As h2,Zq fun q hq=>h q (List.mem_cons_of_mem _ hq)];omega
theorem Wl {L:Int→Int} {s t:Int} (hst:s≠t):∀(l k:Nat) {B:List prP},Sm (hQ L s t k l) B→NN B→(∀i:Nat,i<k+l→(i:Int)≠s∧(i:Int)≠t)→WQ (at1 s) B≤Cf (fun i=>Dw (L i)) k l∧0≤WQ (at1 t) B∧(Cf (fun i=>Dw (L i)) k l≤WQ (at1 s) B→WQ (at1 t) B≤0→∀p∈B,p.r=0)∧((∀p∈B,p.r=0)→B=hR L s t k l)
 | 0,k,[],_,_,_=>⟨Int.le_refl _,Int.le_refl _,fun _ _ p hp=>(by cases hp),fun _=>rfl⟩
 | 0,k,_::_,h,_,_=>by have:=h.len;simp [hQ] at this
 | l+1,k,[],h,_,_=>by have:=h.len;simp [hQ] at this
 | l+1,k,[_],h,_,_=>by have:=h.len;simp [hQ] at this
 | l+1,k,p::q::B,h,hn,hi=>by
  have h':Sm (⟨s,k,Dw (L k),0⟩::⟨k,t,Dw (- L k),0⟩::hQ L s t (k+1) l) (p::q::B):=h;obtain ⟨t1,a1,a2,a3⟩:=h'.tail;obtain ⟨t2,b1,b2,b3⟩:=Sm.tail t1;dsimp only at a1 a2 a3 b1 b2 b3;obtain ⟨i1,i2,i3,i4⟩:=Wl hst l (k+1) t2 (fun x hx=>hn x (by simp [hx])) (fun i h=>hi i (by omega));have np:=hn p (by simp);have nq:=hn q (by simp);have hk:=hi k (by omega);rw [Ah,Ah,Ah,Ah,a1,a2,b1,b2,As hk.1,As hk.2,As hst,As (fun e=>hst e.symm),Fi,Fi,Cf];simp only [Int.mul_zero,Int.mul_one,Int.zero_add,Int.add_zero];refine ⟨by omega,by omega,fun g1 g2 x hx=>?_,fun g=>?_⟩
  ·rcases List.mem_cons.1 hx with rfl|hx
   ·omega
   ·rcases List.mem_cons.1 hx with rfl|hx
    ·omega
    ·exact i3 (by omega) (by omega) x hx
  ·have g1:=g p (by simp);have g2:=g q (by simp);rw [hR,←i4 fun x hx=>g x (by simp [hx])];rcases p with ⟨pu,pv,pr,pc⟩
   rcases q with ⟨qu,qv,qr,qc⟩
   dsimp only at *;subst a1;subst a2;subst b1;subst b2;subst g1;subst g2;have x1:pc=Dw (L k):=by omega
   have x2:qc=Dw (- L k):=by omega
   rw [x1,x2]
theorem N5 {K:Nat} {M:List cnP} (hM:∀c∈M,okC (K+2) (K:Int) ((K:Int)+1) c):∀c∈M,(0≤c.u∧c.u<K)∧(0≤c.v∧c.v<K):=fun c hc=>by
 have k:=hM c hc;have:=k.u;have:=k.v;have:=k.u0;have:=k.u1;have:=k.v0;have:=k.v1;omega
theorem X3 {K:Nat} {M:List cnP} (hin:∀c∈M,(0≤c.u∧c.u<K)∧(0≤c.v∧c.v<K)) {z:Int} (hz:(K:Int)≤z) {A2:List prP} (hA:Sm (pQ M) A2):WQ (at1 z) A2=0:=Zq fun p hp=>by
 obtain ⟨e,he⟩:=List.mem_iff_getElem?.1 hp;obtain ⟨a,ha,e1,e2,_⟩:=hA.symm.get he;obtain ⟨c,hc,rfl⟩:=List.mem_map.1 (List.mem_of_getElem? ha);have:=hin c hc;dsimp only at e1 e2;omega
theorem Wk (L:Int→Int) (K:Nat):∀(l k:Nat),k+l≤K→WQ (at1 (K:Int)) (hQ L K ((K:Int)+1) k l)=0
 | 0,_,_=>rfl
 | l+1,k,hk=>by
  rw [hQ,Ah,Ah,Wk L K l (k+1) (by omega)];dsimp only;rw [As (show (k:Int)≠(K:Int) by omega),As (show (K:Int)+1≠(K:Int) by omega)];simp
theorem A0q {K:Nat} {M:List cnP} (hM:∀c∈M,okC (K+2) (K:Int) ((K:Int)+1) c) {Q2:List prP} {val:Int} {S:Int→Bool} (h:Sm (pQ M++hQ (lfS M) K ((K:Int)+1) 0 K) Q2) (hn:NN Q2)
  (hw:∀φ,WQ φ Q2=WQ φ (pQ M++hQ (lfS M) K ((K:Int)+1) 0 K)+val*(φ K-φ ((K:Int)+1))) (hs:S K=true) (ht:S ((K:Int)+1)=false) (hc:∀p∈Q2,(S p.u=true→S p.v=false→p.r=0)∧(S p.v=true→S p.u=false→p.c=0)) :
  ∃A B,Q2=A++B∧Sm (pQ M) A∧Sm (hQ (lfS M) K ((K:Int)+1) 0 K) B∧((∀p∈B,p.r=0)→∃f,A=pR M f∧Circ M f)∧(¬(∀p∈B,p.r=0)→∀f,¬Circ M f):=by
 obtain ⟨A,B,rfl,h1,h2⟩:=h.split;have hnA:NN A:=fun p hp=>hn p (List.mem_append_left _ hp);have hnB:NN B:=fun p hp=>hn p (List.mem_append_right _ hp);have hst:(K:Int)≠(K:Int)+1:=by omega
 obtain ⟨j1,j2,j3,j4⟩:=Wl hst K 0 h2 hnB (fun i hi=>by omega);obtain ⟨r1,r2,r3⟩:=A42 (lfS M) K ((K:Int)+1) K 0;have hin:=N5 hM;have offM:∀(z:Int),(K:Int)≤z→∀A2,Sm (pQ M) A2→WQ (at1 z) A2=0:=fun z hz A2 hA=>X3 hin hz hA;have tL:∀φ:Int→Int,Cf (fun i=>lfS M i*φ (i:Int)) 0 K=loV φ M:=fun φ=>A14 φ hin;have hPN:Cf (fun i=>Dw (lfS M i)) 0 K=Cf (fun i=>Dw (- lfS M i)) 0 K:=by
  have e:=tL fun _=>1;have e0:=Y0 M;rw [e0] at e;have e1:Cf (fun i=>Dw (lfS M i)) 0 K=Cf (fun i=>Dw (- lfS M i)+lfS M i*1) 0 K:=K8 K 0 fun i _ _=>by have:=(K2 (lfS M i)).1;omega
  rw [e1,Hz,e];omega
 obtain ⟨P,hP⟩:∃P,P=Cf (fun i=>Dw (lfS M i)) 0 K:=⟨_,rfl⟩;rw [←hP] at j1 j3 hPN;have w0:=hw (at1 (K:Int));have w1:=hw (at1 ((K:Int)+1));have z0:=Wk (lfS M) K;have z1:∀(l k:Nat),k+l≤K→WQ (at1 ((K:Int)+1)) (hQ (lfS M) K ((K:Int)+1) k l)=Cf (fun i=>Dw (- lfS M i)) k l:=by
  intro l
  induction l with
  | zero=>intro _ _;rfl
  | succ l ih =>
   intro k hk;rw [hQ,Ah,Ah,ih (k+1) (by omega),Cf];dsimp only;rw [As (show (k:Int)≠(K:Int)+1 by omega),Fi];simp
 rw [Hh,Hh,offM K (Int.le_refl _) A h1,offM K (Int.le_refl _) _ (Sm.rfl _),z0 K 0 (by omega),Fi,As hst.symm] at w0;rw [Hh,Hh,offM ((K:Int)+1) (by omega) A h1,offM ((K:Int)+1) (by omega) _ (Sm.rfl _),z1 K 0 (by omega),Fi,As hst,←hPN] at w1;refine ⟨A,B,rfl,h1,h2,fun g=>?_,fun g f hf=>?_⟩
 ·obtain ⟨f,f1,f2⟩:=A1s h1 hnA;have hB:=j4 g;obtain ⟨q1,q2,q3⟩:=A1t hM f2;have hval:∀φ,P*(φ K-φ ((K:Int)+1))=cirV φ M f+val*(φ K-φ ((K:Int)+1)):=fun φ=>by
   have e:=hw φ;rw [hB,f1,Hh,Hh,q3,r3,tL,←hP,←hPN] at e;have m:P*(φ K-φ ((K:Int)+1))=P*φ K-P*φ ((K:Int)+1):=Int.mul_sub _ _ _;omega
  have hv:val=P:=by
   rw [hB,r3,z0 K 0 (by omega),←hP,Fi,As hst.symm] at w0;rw [G5 (fun i=>lfS M i*at1 (K:Int) (i:Int)) K 0 (fun i _ hi=>by rw [As (by omega)];simp)] at w0;omega
  refine ⟨f,f1,f2,fun φ=>?_⟩;have:=hval φ;rw [hv] at this;omega
 ·apply g;obtain ⟨q1,q2,q3⟩:=A1t hM hf.bd;have hcut:=Sw (S:=S) (h.symm.tr (q1.app r1)) (q2.app r2) hc;rw [hw (ind S),Hh,Hh,q3,r3,tL,hf.cv,←hP,←hPN] at hcut;have i0:ind S (K:Int)=1:=if_pos hs;have i1:ind S ((K:Int)+1)=0:=if_neg (by rw [ht];simp);rw [i0,i1] at hcut;exact j3 (by omega) (by omega)
end Go.Proofs.Ytbhjgebjojdohaa
namespace Go.Proofs.Ytbhjgebjojdohaa
open Go Go.RowKit Go.Eng
set_option maxRecDepth 10000
set_option linter.unusedVariables false
set_option linter.unusedSimpArgs false
def cP (p:ref03_Pipe):cnP:=⟨p.From,p.To,p.Span.Lo,p.Span.Hi⟩
def LR (K:Nat) (l:List Int) (f:Int→Int):Prop:=l.length=K∧∀i z,getI l i=some z→z=f i
theorem LR.at_ {K:Nat} {l:List Int} {f:Int→Int} (h:LR K l f) {i:Int} (hi:0≤i∧i<K):getI l i=some (f i):=by
 obtain ⟨z,hz⟩:=D7 (l:=l) (i:=i) (by rw [h.1];exact hi);rw [hz,h.2 i z hz]
theorem LR.set {K:Nat} {l:List Int} {f:Int→Int} (h:LR K l f) {i:Int} (hi:0≤i∧i<K) (z:Int):∃l2,B7 l i z=some l2∧LR K l2 (fun a=>if a=i then z else f a):=by
 obtain ⟨l2,a1,a2,a3,a4⟩:=G9 (y:=z) (h.at_ hi);refine ⟨l2,a1,a2.trans h.1,fun j w hw=>?_⟩
 by_cases e:j=i
 ·subst e;rw [a3] at hw;cases hw;exact (if_pos rfl).symm
 ·rw [a4 j e] at hw;exact (h.2 j w hw).trans (if_neg e).symm
theorem LR.congr {K:Nat} {l:List Int} {f g:Int→Int} (h:LR K l f) (e:∀x,f x=g x):LR K l g:=by rw [show g=f from funext fun x=>(e x).symm];exact h
theorem A3c (M:List cnP) (c:cnP):pQ (M++[c])=pQ M++[⟨c.u,c.v,c.hi-c.lo,0⟩]:=by unfold pQ;rw [List.map_append];rfl
theorem Ut (c:cnP) (i:Int):∀M:List cnP,lfS (M++[c]) i=lfS M i+((if c.v=i then c.lo else 0)-(if c.u=i then c.lo else 0))
 | []=>by show _=0+_;rw [List.nil_append,lfS,lfS];omega
 | d::M=>by rw [List.cons_append,lfS,lfS,Ut c i M];omega
theorem Wv (Q:List prP) (u v h a b:Int):mQ (Q++[⟨u,v,h,0⟩]) a b=mQ Q a b+if u=a∧v=b then h else 0:=by
 rw [A15];show _+mQ [_] a b=_;rw [mQ,mQ];dsimp only
 split<;>split<;>omega
theorem A5u (M:List cnP) (u v lo hi:Int):pQ (M++[⟨u,v,lo,hi⟩])=pQ M++[⟨u,v,hi-lo,0⟩]:=A3c M _
theorem A2y (M:List cnP) (u v lo hi i:Int):lfS (M++[⟨u,v,lo,hi⟩]) i=lfS M i+((if v=i then lo else 0)-(if u=i then lo else 0)):=Ut _ i M
theorem Xk (l:List ref03_Pipe) (p:ref03_Pipe):(l++[p]).map cP=l.map cP++[⟨p.From,p.To,p.Span.Lo,p.Span.Hi⟩]:=by rw [List.map_append];rfl
theorem A4b {n:Nat} {e0 e1:Int} (x y:Int):∀{M:List cnP},(∀c∈M,okC n e0 e1 c)→0≤mQ (pQ M) x y∧mQ (pQ M) x y≤1073741824*(M.length:Int)
 | [],_=>⟨Int.le_refl _,Int.le_refl _⟩
 | c::M,h=>by
  have k:=h c (List.mem_cons_self ..);have:=k.lo;have:=k.le;have:=k.hi;have:=A4b x y fun q hq=>h q (List.mem_cons_of_mem _ hq);rw [List.length_cons];show 0≤mQ (_::pQ M) x y∧mQ (_::pQ M) x y≤_;rw [mQ];dsimp only
  split<;>split<;>omega
theorem Qb {n:Nat} {e0 e1:Int} (i:Int):∀{M:List cnP},(∀c∈M,okC n e0 e1 c)→- (1073741824*(M.length:Int))≤lfS M i∧lfS M i≤1073741824*(M.length:Int)
 | [],_=>⟨Int.le_refl _,Int.le_refl _⟩
 | c::M,h=>by
  have k:=h c (List.mem_cons_self ..);have:=k.lo;have:=k.le;have:=k.hi;have:=Qb i fun q hq=>h q (List.mem_cons_of_mem _ hq);rw [List.length_cons,lfS]
  split<;>split<;>omega
theorem L0 {L:Int→Int} {s t:Int}:∀{l k:Nat} {p:prP},p∈hQ L s t k l→∃i:Nat,k≤i∧i<k+l∧((p.u=s∧p.v=(i:Int))∨(p.u=(i:Int)∧p.v=t))∧0≤p.r∧p.c=0∧p.r≤Dw (L (i:Int))+Dw (- L (i:Int))
 | 0,k,p,h=>by cases h
 | l+1,k,p,h=>by
  have p1:=(K2 (L (k:Int))).2;have p2:=(K2 (- L (k:Int))).2;rw [hQ] at h;rcases List.mem_cons.1 h with rfl|h
  ·exact ⟨k,Nat.le_refl _,by omega,.inl ⟨rfl,rfl⟩,p1,rfl,by dsimp only;omega⟩
  ·rcases List.mem_cons.1 h with rfl|h
   ·exact ⟨k,Nat.le_refl _,by omega,.inr ⟨rfl,rfl⟩,p2,rfl,by dsimp only;omega⟩
   ·obtain ⟨i,a,b,c⟩:=L0 h;exact ⟨i,by omega,by omega,c⟩
def sE (p q:prP):Prop:=(p.u=q.u∧p.v=q.v)∨(p.u=q.v∧p.v=q.u)
theorem DQ.cons {p:prP} {Q:List prP} (h:DQ Q) (h1:p.u≠p.v) (h2:∀q∈Q,¬sE p q):DQ (p::Q):=by
 refine ⟨fun q hq=>?_,fun e f a b ha hb hab=>?_⟩
 ·rcases List.mem_cons.1 hq with rfl|hq
  ·exact h1
  ·exact h.1 q hq
 ·cases e with
  | zero =>
   simp at ha;subst ha
   cases f with
   | zero=>rfl
   | succ f=>exact absurd hab (h2 b (List.mem_of_getElem? (by simpa using hb)))
  | succ e =>
   cases f with
   | zero =>
    simp at hb;subst hb;refine absurd ?_ (h2 a (List.mem_of_getElem? (by simpa using ha)));rcases hab with q|q
    ·exact .inl ⟨q.1.symm,q.2.symm⟩
    ·exact .inr ⟨q.2.symm,q.1.symm⟩
   | succ f=>rw [h.2 e f a b (by simpa using ha) (by simpa using hb) hab]
theorem DQ.app:∀{A B:List prP},DQ A→DQ B→(∀a∈A,∀b∈B,¬sE a b)→DQ (A++B)
 | [],B,_,h,_=>h
 | p::A,B,h,k,hab=>by
  refine DQ.cons (DQ.app h.tail k fun a ha=>hab a (List.mem_cons_of_mem _ ha)) (h.1 p (List.mem_cons_self ..)) fun q hq=>?_;rcases List.mem_append.1 hq with hq|hq
  ·intro e;obtain ⟨f,hf⟩:=List.mem_iff_getElem?.1 hq;have:=h.2 0 (f+1) p q rfl (by simpa using hf) e;omega
  ·exact hab p (List.mem_cons_self ..) q hq
theorem A41 {L:Int→Int} {K:Nat}:∀(l k:Nat),k+l≤K→DQ (hQ L K ((K:Int)+1) k l)
 | 0,k,_=>⟨fun p h=>(by cases h),fun e f p q h=>by simp [hQ] at h⟩
 | l+1,k,h=>by
  rw [hQ];refine DQ.cons (DQ.cons (A41 l (k+1) (by omega)) (by dsimp only;omega) fun q hq=>?_) (by dsimp only;omega) fun q hq=>?_
  ·obtain ⟨i,a,b,c,_⟩:=L0 hq;unfold sE;dsimp only;rcases c with c|c<;>omega
  ·rcases List.mem_cons.1 hq with rfl|hq
   ·unfold sE;dsimp only;omega
   ·obtain ⟨i,a,b,c,_⟩:=L0 hq;unfold sE;dsimp only;rcases c with c|c<;>omega
theorem T7 {M:List cnP} {p:prP} (h:p∈pQ M):∃c∈M,p=⟨c.u,c.v,c.hi-c.lo,0⟩:=by
 obtain ⟨c,hc,e⟩:=List.mem_map.1 h;exact ⟨c,hc,e.symm⟩
theorem A6y {K:Nat} {M:List cnP} (hM:∀c∈M,okC (K+2) (K:Int) ((K:Int)+1) c) (hl:M.length≤100) (hD:DQ (pQ M)):GQ (K+2) 1000000000000 (pQ M++hQ (lfS M) K ((K:Int)+1) 0 K)∧DQ (pQ M++hQ (lfS M) K ((K:Int)+1) 0 K):=by
 have hin:=N5 hM;refine ⟨fun p hp=>?_,hD.app (A41 K 0 (by omega)) fun a ha b hb=>?_⟩
 ·rcases List.mem_append.1 hp with hp|hp
  ·obtain ⟨c,hc,rfl⟩:=T7 hp;have:=hin c hc;have k:=hM c hc;have:=k.lo;have:=k.le;have:=k.hi;dsimp only;omega
  ·obtain ⟨i,a,b,c,d,e,f⟩:=L0 hp;have hb:=Qb (i:Int) hM;have:Dw (lfS M (i:Int))+Dw (- lfS M (i:Int))≤107374182400:=by unfold Dw;split<;>split<;>omega
   rcases c with c|c<;>omega
 ·obtain ⟨c,hc,rfl⟩:=T7 ha;obtain ⟨i,a,b,d,_⟩:=L0 hb;have:=hin c hc;unfold sE;dsimp only;rcases d with d|d<;>omega
theorem A1w {α:Type} (x:α) (n:Nat):List.replicate n x++[x]=List.replicate (n+1) x:=by rw [List.replicate_succ']
theorem A4c {K:Nat} (hK:K≤10000) {F:Nat} {pipes:List ref03_Pipe}:∀(n x:Nat),x≤K+2→K+2-x<n→Ca F (K:Int) pipes n (List.replicate x (List.replicate (K+2) 0)) (x:Int)=Dm F (K:Int) pipes (List.replicate (K+2) (List.replicate (K+2) 0))
 | 0,_,_,h=>by omega
 | n+1,x,hx,hn=>by
  have c2:ck ((K:Int)+2)=some (((K+2:Nat)):Int):=by rw [ckJ (by omega),Int.natCast_add];rfl
  rw [Ca,Ea,A5 c2]
  by_cases h:x<K+2
  ·rw [decide_eq_true (by omega:(x:Int)<((K+2:Nat):Int)),cond_true,A5 c2];rw [A5 (show mkI 8 ((K+2:Nat):Int) 0=some (List.replicate (K+2) (0:Int)) by unfold mkI;rw [if_pos ⟨by omega,by rw [Int.toNat_natCast];omega,by omega⟩,Int.toNat_natCast])];rw [A5 (show apd 24 (List.replicate x (List.replicate (K+2) (0:Int))) [List.replicate (K+2) 0]=some (List.replicate (x+1) (List.replicate (K+2) 0)) by
    unfold apd;rw [if_pos ⟨by rw [List.length_replicate,List.length_singleton];omega,by rw [List.length_replicate,List.length_singleton];omega⟩,A1w])]
   rw [A5 (show ck ((x:Int)+1)=some ((x+1:Nat):Int) by rw [ckJ (by omega),Int.natCast_add];rfl)];exact A4c hK n (x+1) (by omega) (by omega)
  ·rw [decide_eq_false (by omega:¬(x:Int)<((K+2:Nat):Int)),cond_false,show x=K+2 by omega]
theorem A3w {K:Nat} (hK:K≤10000) {F:Nat}:∀(n:Nat) (done rest:List ref03_Pipe) (R:List (List Int)) (left:List Int),(∀c∈(done++rest).map cP,okC (K+2) (K:Int) ((K:Int)+1) c)→(done++rest).length≤100→rest.length<n→Rep (K+2) R (mQ (pQ (done.map cP)))→LR K left (lfS (done.map cP)) →
  ∃R2 left2,C0 F (K:Int) (done++rest) n R left (done.length:Int)=Dn F (K:Int) (done++rest) R2 left2∧Rep (K+2) R2 (mQ (pQ ((done++rest).map cP)))∧LR K left2 (lfS ((done++rest).map cP))
 | 0,_,_,_,_,_,_,h,_,_=>by omega
 | n+1,done,[],R,left,hM,hl,hn,hR,hL=>by
  refine ⟨R,left,?_,by rw [List.append_nil];exact hR,by rw [List.append_nil];exact hL⟩;rw [List.append_nil,C0,Dl,decide_eq_false (by omega:¬((done.length:Nat):Int)<((done.length:Nat):Int)),cond_false]
 | n+1,done,p::rest,R,left,hM,hl,hn,hR,hL=>by
  have hc:=hM (cP p) (by simp);have hin:=N5 hM (cP p) (by simp);have k1:=hc.lo;have k2:=hc.le;have k3:=hc.hi;have hdone:∀c∈done.map cP,okC (K+2) (K:Int) ((K:Int)+1) c:=fun c h=>hM c (by rw [List.map_append];exact List.mem_append_left _ h);have hdl:(done.map cP).length≤100:=by rw [List.length_map];rw [List.length_append] at hl;omega
  have uv:=hc.uv;dsimp only [cP] at hin k1 k2 k3 uv;obtain ⟨row,r1,r2⟩:=hR.at_ (x:=p.From) (y:=p.To) (by omega) (by omega);obtain ⟨b1,b2⟩:=A4b p.From p.To hdone;obtain ⟨b3,b4⟩:=Qb p.To hdone;obtain ⟨b5,b6⟩:=Qb p.From hdone;obtain ⟨l1,R1,s1,s2,s3⟩:=hR.set r1 (y:=p.To) (by omega) (mQ (pQ (done.map cP)) p.From p.To+(p.Span.Hi-p.Span.Lo));obtain ⟨left1,t1,t2⟩:=hL.set (i:=p.To) (by omega) (lfS (done.map cP) p.To+p.Span.Lo);have t3:=t2.at_ (i:=p.From) (by omega);rw [if_neg uv] at t3;obtain ⟨left2,t4,t5⟩:=t2.set (i:=p.From) (by omega) (lfS (done.map cP) p.From-p.Span.Lo);have hR1:Rep (K+2) R1 (mQ (pQ ((done++[p]).map cP))):=s3.congr fun a b=>by
   rw [Xk,A5u,Wv]
   by_cases h:a=p.From∧b=p.To
   ·rw [if_pos h,if_pos ⟨h.1.symm,h.2.symm⟩,h.1,h.2]
   ·rw [if_neg h,if_neg (fun e=>h ⟨e.1.symm,e.2.symm⟩)];omega
  have hL2:LR K left2 (lfS ((done++[p]).map cP)):=t5.congr fun a=>by
   rw [Xk,A2y]
   by_cases h:a=p.From
   ·rw [if_pos h,h,if_neg (fun e=>uv e.symm),if_pos rfl];omega
   ·rw [if_neg h]
    by_cases h2:a=p.To
    ·rw [if_pos h2,h2,if_pos rfl,if_neg uv];omega
    ·rw [if_neg h2,if_neg (fun e=>h2 e.symm),if_neg (fun e=>h e.symm)];omega
  obtain ⟨R3,left3,g1,g2,g3⟩:=A3w hK (F:=F) n (done++[p]) rest R1 left2 (by rw [List.append_assoc];exact hM) (by rw [List.append_assoc];exact hl) (by rw [List.length_cons] at hn;omega) hR1 hL2;rw [List.append_assoc] at g1 g2 g3;refine ⟨R3,left3,?_,g2,g3⟩;have hp:getI (done++p::rest) ((done.length:Nat):Int)=some p:=by rw [getI_nat,List.getElem?_append_right (Nat.le_refl _),Nat.sub_self];rfl
  rw [List.length_map] at b2 b3 b4 b5 b6;rw [List.length_append,List.length_cons] at hl;rw [C0,Dl,decide_eq_true (by rw [List.length_append,List.length_cons];omega:((done.length:Nat):Int)<(((done++p::rest).length:Nat):Int)),cond_true]
  iterate 1 rw [A5 hp]
  rw [A5 r1,A5 hp,A5 r2,A5 hp,A5 hp,A5 (ckJ (by omega)),A5 (ckJ (by omega)),A5 r2,A5 s1,A5 s2,A5 hp,A5 (hL.at_ (i:=p.To) (by omega)),A5 hp,A5 (ckJ (by omega)),A5 (hL.at_ (i:=p.To) (by omega)),A5 t1,A5 hp,A5 t3,A5 hp,A5 (ckJ (by omega)),A5 t3,A5 t4];rw [A5 (show ck (((done.length:Nat):Int)+1)=some (((done++[p]).length:Nat):Int) by rw [ckJ (by omega),List.length_append,List.length_singleton,Int.natCast_add];rfl)];exact g1
theorem A43 {K:Nat} (hK:K≤10000) {F:Nat} {pipes:List ref03_Pipe} {M:List cnP} (hM:∀c∈M,okC (K+2) (K:Int) ((K:Int)+1) c) (hl:M.length≤100) {left:List Int} (hL:LR K left (lfS M)):∀(n x:Nat) (R:List (List Int)),x≤K→K-x<n→Rep (K+2) R (mQ (pQ M++hQ (lfS M) K ((K:Int)+1) 0 x)) →
  ∃R2,Bz F (K:Int) pipes left n R (x:Int)=Do F (K:Int) pipes R2∧Rep (K+2) R2 (mQ (pQ M++hQ (lfS M) K ((K:Int)+1) 0 K))
 | 0,_,_,_,h,_=>by omega
 | n+1,x,R,hx,hn,hR=>by
  by_cases hlt:x<K
  ·have hb:=Qb (x:Int) hM;have hin:=N5 hM;obtain ⟨row,r1,r2⟩:=hR.at_ (x:=(K:Int)) (y:=(x:Int)) (by omega) (by omega);obtain ⟨l1,R1,s1,s2,s3⟩:=hR.set r1 (y:=(x:Int)) (by omega) (if lfS M (x:Int)>0 then lfS M (x:Int) else 0);obtain ⟨row2,r3,r4⟩:=s3.at_ (x:=(x:Int)) (y:=(K:Int)+1) (by omega) (by omega);have hw:IntKind.i64.wrap (0-lfS M (x:Int))=- lfS M (x:Int):=by rw [Go.Eng.wrap64 (by omega)];omega
   obtain ⟨l2,R2,s4,s5,s6⟩:=s3.set r3 (y:=(K:Int)+1) (by omega) (if IntKind.i64.wrap (0-lfS M (x:Int))>0 then IntKind.i64.wrap (0-lfS M (x:Int)) else 0);have zero:∀a b:Int,(a=K∧b=x)∨(a=x∧b=(K:Int)+1)→mQ (pQ M++hQ (lfS M) K ((K:Int)+1) 0 x) a b=0:=fun a b hab=>Jc fun p hp=>by
    rcases List.mem_append.1 hp with hp|hp
    ·obtain ⟨c,hc,rfl⟩:=T7 hp;have:=hin c hc;dsimp only;omega
    ·obtain ⟨i,c1,c2,c3,_⟩:=L0 hp;omega
   have hR2:Rep (K+2) R2 (mQ (pQ M++hQ (lfS M) K ((K:Int)+1) 0 (x+1))):=s6.congr fun a b=>by
    rw [hw,Xx,Nat.zero_add,show ∀(X:List prP) (p q:prP),X++[p,q]=X++[p]++[q] from fun X p q=>by rw [List.append_assoc];rfl,←List.append_assoc,←List.append_assoc,Wv,Wv];unfold Dw
    by_cases h1:a=(x:Int)∧b=(K:Int)+1
    ·rw [if_pos h1,zero a b (.inr h1),if_neg (show ¬((K:Int)=a∧(x:Int)=b) by omega),if_pos (show ((x:Int)=a∧(K:Int)+1=b) by omega)];omega
    ·rw [if_neg h1]
     by_cases h2:a=(K:Int)∧b=(x:Int)
     ·rw [if_pos h2,zero a b (.inl h2),if_pos (show ((K:Int)=a∧(x:Int)=b) by omega),if_neg (show ¬((x:Int)=a∧(K:Int)+1=b) by omega)];omega
     ·rw [if_neg h2,if_neg (show ¬((K:Int)=a∧(x:Int)=b) by omega),if_neg (show ¬((x:Int)=a∧(K:Int)+1=b) by omega)];omega
   obtain ⟨R3,g1,g2⟩:=A43 hK (F:=F) (pipes:=pipes) hM hl hL n (x+1) R2 (by omega) (by omega) hR2;refine ⟨R3,?_,g2⟩;have hlx:=hL.at_ (i:=(x:Int)) (by omega);rw [Bz,Dk,decide_eq_true (by omega:(x:Int)<(K:Int)),cond_true,A5 r1,A5 hlx,A5 r2,A5 s1,A5 s2,A5 r3,A5 (ckJ (by omega)),A5 hlx,A5 r4,A5 s4,A5 s5];rw [A5 (show ck ((x:Int)+1)=some ((x+1:Nat):Int) by rw [ckJ (by omega),Int.natCast_add];rfl)];exact g1
  ·refine ⟨R,?_,?_⟩
   ·rw [Bz,Dk,decide_eq_false (by omega:¬(x:Int)<(K:Int)),cond_false]
   ·rw [show x=K by omega] at hR;exact hR
end Go.Proofs.Ytbhjgebjojdohaa
namespace Go.Proofs.Ytbhjgebjojdohaa
open Go Go.RowKit Go.Eng
set_option maxRecDepth 10000
set_option linter.unusedVariables false
set_option linter.unusedSimpArgs false
theorem A0a {K:Nat} (hK:K≤10000) {F:Nat} {pipes:List ref03_Pipe} {R:List (List Int)} {f:Int→Int→Int} (hR:Rep (K+2) R f):∀(n x:Nat),x≤K→K-x<n →
  ((∃i:Nat,i<K∧(0<f K i∨0<f i ((K:Int)+1)))∧Bk F (K:Int) pipes ⟨R⟩ n (x:Int)=some ([],false))∨((∀i:Nat,x≤i→i<K→f K i≤0∧f i ((K:Int)+1)≤0)∧Bk F (K:Int) pipes ⟨R⟩ n (x:Int)=Dp F pipes ⟨R⟩)
 | 0,_,_,h=>by omega
 | n+1,x,hx,hn=>by
  rw [Bk,Eo]
  by_cases hlt:x<K
  ·obtain ⟨row,r1,r2⟩:=hR.at_ (x:=(K:Int)) (y:=(x:Int)) (by omega) (by omega);obtain ⟨row2,r3,r4⟩:=hR.at_ (x:=(x:Int)) (y:=(K:Int)+1) (by omega) (by omega);rw [decide_eq_true (by omega:(x:Int)<(K:Int)),cond_true];dsimp only;rw [A5 r1,A5 r2]
   by_cases h1:f K x>0
   ·exact .inl ⟨⟨x,hlt,.inl h1⟩,by rw [decide_eq_true h1,cond_true]⟩
   ·rw [decide_eq_false h1,cond_false,A5 r3,A5 (ckJ (by omega)),A5 r4]
    by_cases h2:f x ((K:Int)+1)>0
    ·exact .inl ⟨⟨x,hlt,.inr h2⟩,by rw [decide_eq_true h2,cond_true]⟩
    ·rw [decide_eq_false h2,cond_false,A5 (show ck ((x:Int)+1)=some ((x+1:Nat):Int) by rw [ckJ (by omega),Int.natCast_add];rfl)];rcases A0a hK (F:=F) (pipes:=pipes) hR n (x+1) (by omega) (by omega) with ⟨a,b⟩|⟨a,b⟩
     ·exact .inl ⟨a,b⟩
     ·refine .inr ⟨fun i h3 h4=>?_,b⟩
      by_cases e:i=x
      ·subst e;omega
      ·exact a i (by omega) h4
  ·refine .inr ⟨fun i h3 h4=>by omega,?_⟩;rw [decide_eq_false (by omega:¬(x:Int)<(K:Int)),cond_false]
theorem A4a {K:Nat} {R:List (List Int)} {Q2:List prP} (hR:Rep (K+2) R (mQ Q2)) (hD:DQ Q2):∀(n:Nat) (done rest:List ref03_Pipe) (f1 f2:List Int),(∀p∈rest,((0≤p.From∧p.From<K)∧(0≤p.To∧p.To<K))∧0≤p.Span.Hi∧p.Span.Hi≤1073741824)→(done++rest).length≤100→rest.length<n→f1.length=done.length→bdF (rest.map cP) f2→(∀c∈rest,0≤c.Span.Lo)→(∀(e:Nat) (p:prP),(pR (rest.map cP) f2)[e]? = some p→p∈Q2) →
  By (done++rest) ⟨R⟩ n f1 (done.length:Int)=some (f1++f2,true)
 | 0,_,_,_,_,_,_,h,_,_,_,_=>by omega
 | n+1,done,[],f1,[],hp,hl,hn,hf,hb,hlo,hQ=>by
  rw [List.append_nil,List.append_nil,By,Dj,decide_eq_false (by omega:¬((done.length:Nat):Int)<((done.length:Nat):Int)),cond_false];rfl
 | n+1,done,[],f1,_::_,hp,hl,hn,hf,hb,hlo,hQ=>hb.elim
 | n+1,done,_::_,f1,[],hp,hl,hn,hf,hb,hlo,hQ=>hb.elim
 | n+1,done,p::rest,f1,x::f2,hp,hl,hn,hf,hb,hlo,hQ=>by
  obtain ⟨⟨p1,p2⟩,p3,p4⟩:=hp p (List.mem_cons_self ..);obtain ⟨b1,b2,b3⟩:=hb;have lo:=hlo p (List.mem_cons_self ..);dsimp only [cP] at b1 b2;have hm:=hQ 0 ⟨p.From,p.To,p.Span.Hi-x,x-p.Span.Lo⟩ rfl;obtain ⟨e,he⟩:=List.mem_iff_getElem?.1 hm;have hv:=(Qd hD he).1;dsimp only at hv;obtain ⟨row,r1,r2⟩:=hR.at_ (x:=p.From) (y:=p.To) (by omega) (by omega);rw [hv] at r2;have hg:getI (done++p::rest) ((done.length:Nat):Int)=some p:=by rw [getI_nat,List.getElem?_append_right (Nat.le_refl _),Nat.sub_self];rfl
  rw [List.length_append,List.length_cons] at hl;have ih:=A4a hR hD n (done++[p]) rest (f1++[x]) f2 (fun q hq=>hp q (List.mem_cons_of_mem _ hq)) (by rw [List.length_append,List.length_append,List.length_singleton];omega) (by rw [List.length_cons] at hn;omega) (by rw [List.length_append,List.length_append,hf];rfl) b3 (fun q hq=>hlo q (List.mem_cons_of_mem _ hq)) (fun e q hq=>hQ (e+1) q (by rw [List.map_cons,pR,List.getElem?_cons_succ];exact hq));rw [List.append_assoc,List.append_assoc] at ih;rw [By,Dj,decide_eq_true (by rw [List.length_append,List.length_cons];omega:((done.length:Nat):Int)<(((done++p::rest).length:Nat):Int)),cond_true];dsimp only;rw [A5 hg,A5 hg,A5 r1,A5 hg,A5 r2,A5 (ckJ (by omega)),show p.Span.Hi-(p.Span.Hi-x)=x by omega];rw [A5 (show apd 8 f1 [x]=some (f1++[x]) by unfold apd;rw [if_pos ⟨by rw [hf,List.length_singleton];omega,by rw [hf,List.length_singleton];omega⟩])];rw [A5 (show ck (((done.length:Nat):Int)+1)=some (((done++[p]).length:Nat):Int) by rw [ckJ (by omega),List.length_append,List.length_singleton,Int.natCast_add];rfl)];exact ih
theorem W4 {K:Nat} (hK:K≤10000) {F:Nat} (hF:1000000000000≤F) {pipes:List ref03_Pipe} (hM:∀c∈pipes.map cP,okC (K+2) (K:Int) ((K:Int)+1) c) (hl:pipes.length≤100) (hD:DQ (pQ (pipes.map cP))) :
  ∃l is,E6 F (K:Int) pipes=some (l,is)∧(is=true→Circ (pipes.map cP) l)∧(is=false→∀f,¬Circ (pipes.map cP) f):=by
 obtain ⟨M,eM⟩:∃M,M=pipes.map cP:=⟨_,rfl⟩;have hlM:M.length≤100:=by rw [eM,List.length_map];exact hl
 have hM':∀c∈M,okC (K+2) (K:Int) ((K:Int)+1) c:=by rw [eM];exact hM
 have hin:=N5 hM';obtain ⟨g1,g2⟩:=A6y hM' hlM (by rw [eM];exact hD);have hst:(K:Int)≠(K:Int)+1:=by omega
 have rep0:Rep (K+2) (List.replicate (K+2) (List.replicate (K+2) (0:Int))) (mQ (pQ (([]:List ref03_Pipe).map cP))):=⟨List.length_replicate,fun x row hr=>by
  rw [Ko hr];exact ⟨List.length_replicate,fun y z hz=>(Ko hz).trans rfl⟩⟩
 have lr0:LR K (List.replicate K (0:Int)) (lfS (([]:List ref03_Pipe).map cP)):=⟨List.length_replicate,fun i z hz=>(Ko hz).trans rfl⟩;obtain ⟨R1,left,a1,a2,a3⟩:=A3w hK (F:=F) F [] pipes _ _ hM hl (by omega) rep0 lr0;rw [List.nil_append] at a1 a2 a3;rw [←eM] at a2 a3;have a2':Rep (K+2) R1 (mQ (pQ M++hQ (lfS M) K ((K:Int)+1) 0 0)):=by rw [hQ,List.append_nil];exact a2
 obtain ⟨R2,b1,b2⟩:=A43 hK (F:=F) (pipes:=pipes) hM' hlM a3 F 0 R1 (by omega) (by omega) a2';have hneed:=A31 (K:=K) (fun c hc=>(hM' c hc).lo) (fun c hc=>(hin c hc).2);have hsum:=(Gf hM').2;have hcap:∀Q2,Sm (pQ M++hQ (lfS M) K ((K:Int)+1) 0 K) Q2→NN Q2→WQ (at1 (K:Int)) Q2≤Cf (fun i=>Dw (lfS M i)) 0 K:=fun Q2 h hn=>by
  obtain ⟨A,B,rfl,h1,h2⟩:=h.split;have:=(Wl hst K 0 h2 (fun p hp=>hn p (List.mem_append_right _ hp)) (fun i hi=>by omega)).1;rw [Hh,X3 hin (Int.le_refl _) h1];omega
 have hw0:WQ (at1 (K:Int)) (pQ M++hQ (lfS M) K ((K:Int)+1) 0 K)=0:=by rw [Hh,X3 hin (Int.le_refl _) (Sm.rfl _),Wk (lfS M) K K 0 (by omega)];rfl
 obtain ⟨R3,Q2,val,S,c1,c2,c3,c4,c5,c6,c7,c8⟩:=A3y (by omega:K+2≤100000) (by omega:(0:Int)≤1000000000000∧(1000000000000:Int)≤1000000000000000) (s:=(K:Int)) (t:=(K:Int)+1) (by omega) (by omega) (by omega:K+2+1<F) (Cf (fun i=>Dw (lfS M i)) 0 K) F R2 _ b2 g1 g2 hst hcap (by rw [hw0];omega);obtain ⟨A,B,d1,d2,d3,d4,d5⟩:=A0q hM' c3 c4 c5 c6 c7 c8;have hDQ2:=g2.sm c3;have run:E6 F (K:Int) pipes=Bk F (K:Int) pipes ⟨R3⟩ F 0:=by
  have e1:=A4c hK (F:=F) (pipes:=pipes) F 0 (by omega) (by omega);rw [E6];refine Eq.trans e1 ?_;rw [Dm,A5 (show mkI 8 ((K:Nat):Int) 0=some (List.replicate K (0:Int)) by unfold mkI;rw [if_pos ⟨by omega,by rw [Int.toNat_natCast];omega,by omega⟩,Int.toNat_natCast])];refine Eq.trans a1 ?_;rw [Dn];refine Eq.trans b1 ?_;rw [Do,A5 (ckJ (by omega)),F3];dsimp only;rw [A5 c1]
 have endsB:∀p∈B,∃i:Nat,i<K∧((p.u=(K:Int)∧p.v=(i:Int))∨(p.u=(i:Int)∧p.v=(K:Int)+1)):=fun p hp=>by
  obtain ⟨e,he⟩:=List.mem_iff_getElem?.1 hp;obtain ⟨a,ha,e1,e2,_⟩:=d3.symm.get he;obtain ⟨i,i1,i2,i3,_⟩:=L0 (List.mem_of_getElem? ha);rw [e1,e2] at i3;exact ⟨i,by omega,i3⟩
 have endsA:∀p∈A,(0≤p.u∧p.u<K)∧(0≤p.v∧p.v<K):=fun p hp=>by
  obtain ⟨e,he⟩:=List.mem_iff_getElem?.1 hp;obtain ⟨a,ha,e1,e2,_⟩:=d2.symm.get he;obtain ⟨c,hc,rfl⟩:=T7 (List.mem_of_getElem? ha);have:=hin c hc;dsimp only at e1 e2;omega
 have posB:∀x y:Int,((x=K∧0≤y∧y<K)∨(0≤x∧x<K∧y=(K:Int)+1))→0<mQ Q2 x y→∃p∈B,0<p.r:=fun x y hxy h=>by
  obtain ⟨e,p,he,hc⟩:=Ww (by omega:mQ Q2 x y≠0);obtain ⟨m1,m2⟩:=Qd hDQ2 he;have hp:=List.mem_of_getElem? he;rw [d1] at hp;rcases List.mem_append.1 hp with hp|hp
  ·have:=endsA p hp;omega
  ·obtain ⟨i,i1,i2⟩:=endsB p hp;rcases hc with ⟨rfl,rfl⟩|⟨rfl,rfl⟩
   ·exact ⟨p,hp,by rw [m1] at h;exact h⟩
   ·omega
 rcases A0a hK (F:=F) (pipes:=pipes) c2 F 0 (by omega) (by omega) with ⟨⟨i,hi,hx⟩,e⟩|⟨hz,e⟩
 ·refine ⟨[],false,by rw [run];exact e,fun h=>(by cases h),fun _ f=>?_⟩
  rw [←eM];refine d5 (fun g=>?_) f;rcases hx with hx|hx
  ·obtain ⟨p,hp,h⟩:=posB _ _ (.inl ⟨rfl,by omega,by omega⟩) hx;rw [g p hp] at h;omega
  ·obtain ⟨p,hp,h⟩:=posB _ _ (.inr ⟨by omega,by omega,rfl⟩) hx;rw [g p hp] at h;omega
 ·have hall:∀p∈B,p.r=0:=fun p hp=>by
   have hpq:p∈Q2:=by rw [d1];exact List.mem_append_right _ hp
   obtain ⟨e,he⟩:=List.mem_iff_getElem?.1 hpq;have m:=(Qd hDQ2 he).1;have nn:=(c4 p hpq).1;obtain ⟨i,i1,i2⟩:=endsB p hp;have:=hz i (by omega) i1;rcases i2 with ⟨h1,h2⟩|⟨h1,h2⟩<;>rw [h1,h2] at m<;>omega
  obtain ⟨f,f1,f2⟩:=d4 hall;have o:=A4a c2 hDQ2 F [] pipes [] f (fun p hp=>?_) hl (by omega) rfl (by rw [←eM];exact f2.bd) (fun p hp=>(hM (cP p) (List.mem_map_of_mem hp)).lo) (fun e p hp=>?_)
  ·refine ⟨f,true,?_,fun _=>by rw [←eM];exact f2,fun h=>(by cases h)⟩
   rw [run];refine Eq.trans e ?_;rw [Dp];exact o
  ·have k:=hM (cP p) (List.mem_map_of_mem hp);have:=N5 hM (cP p) (List.mem_map_of_mem hp);have k1:=k.lo;have k2:=k.le;have k3:=k.hi;dsimp only [cP] at this k1 k2 k3;exact ⟨this,by omega,k3⟩
  ·rw [←eM,←f1] at hp;rw [d1];exact List.mem_append_left _ (List.mem_of_getElem? hp)
end Go.Proofs.Ytbhjgebjojdohaa
namespace Go.Proofs.Ytbhjgebjojdohaa
open Go Go.RowKit Go.Eng
set_option maxRecDepth 10000
set_option linter.unusedVariables false
set_option linter.unusedSimpArgs false
def gA (n m:Nat) (gate:Int) (power:api_Span) (r:Nat):ref03_Pipe:=⟨((r%n:Nat):Int),((n+m+r:Nat):Int),gS gate power r⟩
def gB (n m:Nat) (r:Nat):ref03_Pipe:=⟨((n+m+r:Nat):Int),((n+r%m:Nat):Int),⟨0,1073741824⟩⟩
def aP (c:Int):Nat→List api_Span→List ref03_Pipe
 | _,[]=>[]
 | k,s::l=>⟨c,(k:Int),s⟩::aP c (k+1) l
def bP (n:Nat) (c:Int):Nat→List api_Span→List ref03_Pipe
 | _,[]=>[]
 | k,s::l=>⟨((n+k:Nat):Int),c,s⟩::bP n c (k+1) l
theorem Vu (c:Int):∀(l:List api_Span) (k:Nat),(aP c k l).map cP=aM c k l
 | [],_=>rfl
 | s::l,k=>by rw [aP,List.map_cons,Vu c l,aM];rfl
theorem Vz (n:Nat) (c:Int):∀(l:List api_Span) (k:Nat),(bP n c k l).map cP=bM n c k l
 | [],_=>rfl
 | s::l,k=>by rw [bP,List.map_cons,Vz n c l,bM];rfl
theorem Zs (c:Int) (l:List api_Span) (k:Nat):(aP c k l).length=l.length:=by rw [←List.length_map (f:=cP),Vu,Fx]
theorem A4k (n:Nat) (c:Int) (l:List api_Span) (k:Nat):(bP n c k l).length=l.length:=by rw [←List.length_map (f:=cP),Vz,So]
theorem W5 {φ χ:Int→Int} {c d:Int} (hc:φ c=χ d):∀(l:List api_Span) (k:Nat) (f:List Int),(∀i:Nat,i<k+l.length→φ i=χ i)→cirV φ (aM c k l) f=cirV χ (aM d k l) f
 | [],_,_,_=>rfl
 | s::l,k,[],_=>rfl
 | s::l,k,x::f,h=>by
  rw [List.length_cons] at h;rw [aM,aM,cirV,cirV,W5 hc l (k+1) f fun i hi=>h i (by omega)];dsimp only;rw [hc,h k (by omega)]
theorem W6 {φ χ:Int→Int} {n:Nat} {c d:Int} (hc:φ c=χ d):∀(l:List api_Span) (k:Nat) (f:List Int),(∀i:Nat,i<n+k+l.length→φ i=χ i)→cirV φ (bM n c k l) f=cirV χ (bM n d k l) f
 | [],_,_,_=>rfl
 | s::l,k,[],_=>rfl
 | s::l,k,x::f,h=>by
  rw [List.length_cons] at h;rw [bM,bM,cirV,cirV,W6 hc l (k+1) f fun i hi=>h i (by omega)];dsimp only;rw [hc,h (n+k) (by omega)]
theorem A01 (c d:Int):∀(l:List api_Span) (k:Nat) (f:List Int),bdF (aM c k l) f→bdF (aM d k l) f
 | [],_,_,h=>h
 | s::l,k,[],h=>h.elim
 | s::l,k,x::f,h=>⟨h.1,h.2.1,A01 c d l (k+1) f h.2.2⟩
theorem A02 (n:Nat) (c d:Int):∀(l:List api_Span) (k:Nat) (f:List Int),bdF (bM n c k l) f→bdF (bM n d k l) f
 | [],_,_,h=>h
 | s::l,k,[],h=>h.elim
 | s::l,k,x::f,h=>⟨h.1,h.2.1,A02 n c d l (k+1) f h.2.2⟩
theorem rng {α:Type} (g:Nat→α) (k l:Nat):(List.range' k (l+1)).map g=g k::(List.range' (k+1) l).map g:=by rw [List.range'_succ,List.map_cons]
theorem W7 (φ:Int→Int) (n m:Nat) (gate:Int) (power:api_Span):∀(p:List Int) (k:Nat),cirV φ ((List.range' k p.length).map fun r=>cP (gA n m gate power r)) p=D2 (fun r=>φ ((n+m+r:Nat):Int)-φ ((r%n:Nat):Int)) k p
 | [],_=>rfl
 | x::p,k=>by rw [List.length_cons,rng,cirV,W7 φ n m gate power p,D2];rfl
theorem W8 (φ:Int→Int) (n m:Nat):∀(p:List Int) (k:Nat),cirV φ ((List.range' k p.length).map fun r=>cP (gB n m r)) p=D2 (fun r=>φ ((n+r%m:Nat):Int)-φ ((n+m+r:Nat):Int)) k p
 | [],_=>rfl
 | x::p,k=>by rw [List.length_cons,rng,cirV,W8 φ n m p,D2];rfl
theorem A03 (n m:Nat) (gate:Int) (power:api_Span):∀(p:List Int) (k:Nat),bdF ((List.range' k p.length).map fun r=>cP (gA n m gate power r)) p↔bdF ((List.range' k p.length).map (gC n m gate power)) p
 | [],_=>Iff.rfl
 | x::p,k=>by
  rw [List.length_cons,rng,rng];show _∧_∧bdF _ _↔_∧_∧bdF _ _;rw [A03 n m gate power p (k+1)];exact Iff.rfl
theorem A3q (n m:Nat):∀(p:List Int) (k:Nat),(∀x∈p,0≤x∧x≤1073741824)→bdF ((List.range' k p.length).map fun r=>cP (gB n m r)) p
 | [],_,_=>trivial
 | x::p,k,h=>by
  rw [List.length_cons,rng];have:=h x (List.mem_cons_self ..);exact ⟨this.1,this.2,A3q n m p (k+1) fun y hy=>h y (List.mem_cons_of_mem _ hy)⟩
theorem Ls {ψ χ:Nat→Int}:∀(p:List Int) (k:Nat),(∀r,k≤r→r<k+p.length→ψ r=χ r)→D2 ψ k p=D2 χ k p
 | [],_,_=>rfl
 | x::p,k,h=>by
  rw [List.length_cons] at h;rw [D2,D2,h k (Nat.le_refl _) (by omega),Ls p (k+1) fun r a b=>h r (by omega) (by omega)]
def Yk (a b:List api_Span) (most:Nat) (gate:Int) (power:api_Span):List ref03_Pipe :=
 (List.range' 0 most).map (gA a.length b.length gate power)++(List.range' 0 most).map (gB a.length b.length)++aP ((a.length+b.length+most:Nat):Int) 0 a++bP a.length ((a.length+b.length+most:Nat):Int) 0 b
def Pm (a b:List api_Span) (most:Nat) (gate:Int) (power:api_Span):List cnP :=
 ((List.range' 0 most).map fun r=>cP (gA a.length b.length gate power r))++((List.range' 0 most).map fun r=>cP (gB a.length b.length r))++aM ((a.length+b.length+most:Nat):Int) 0 a++bM a.length ((a.length+b.length+most:Nat):Int) 0 b
theorem Pn (a b:List api_Span) (most:Nat) (gate:Int) (power:api_Span):(Yk a b most gate power).map cP=Pm a b most gate power:=by
 unfold Yk Pm;rw [List.map_append,List.map_append,List.map_append,List.map_map,List.map_map,Vu,Vz];rfl
theorem A4s {a b:List api_Span} {most:Nat} {gate:Int} {power:api_Span} {p:List Int} (ha:0<a.length) (hb:0<b.length) (hp:okS power) (h:PF a b most gate power p):∃f,Circ (Pm a b most gate power) f:=by
 have hc:=P1 ha hb h;obtain ⟨ta,hta⟩:∃t,t=tab (fun i=>sumAt a.length i p) 0 a.length:=⟨_,rfl⟩;obtain ⟨tb,htb⟩:∃t,t=tab (fun i=>sumAt b.length i p) 0 b.length:=⟨_,rfl⟩;rw [←hta,←htb] at hc;have lta:ta.length=a.length:=by rw [hta,Tx]
 have hl:=h.len;have lg:p.length=(gM a.length b.length gate power most).length:=by unfold gM;rw [List.length_map,List.length_range,hl]
 obtain ⟨hbd,hcv⟩:=hc;have hbd2:=hbd;unfold Eb at hbd hcv;obtain ⟨g1,fb,e1,h1,h3⟩:=Ha hbd;obtain ⟨p',fa,rfl,h1',h2⟩:=Ha h1;have l1:=Gk h1';have l2:=Gk h2;rw [Fx] at l2;have e2:=List.append_inj e1 (by rw [List.length_append,List.length_append,lg,l1,lta,l2]);have e3:=List.append_inj e2.1 (by rw [lg,l1]);obtain ⟨rfl,rfl⟩:=e3;have e4:=e2.2;subst e4;rw [Gb,←hl] at h1';refine ⟨p++p++ta++tb,?_,fun φ=>?_⟩
 ·unfold Pm;rw [←hl];refine Ga (Ga (Ga ((A03 _ _ _ _ p 0).2 h1') (A3q _ _ p 0 fun x hx=>?_)) (A01 _ _ _ _ _ h2)) (A02 _ _ _ _ _ _ h3);obtain ⟨i,hi⟩:=List.mem_iff_getElem?.1 hx;have:=h.gb i x hi;have:=Xu (gate:=gate) hp i;unfold okS at this;omega
 ·obtain ⟨χ,hχ⟩:∃χ:Int→Int,χ=fun x=>if x=(a.length:Int)+b.length then φ ((a.length+b.length+most:Nat):Int) else φ x:=⟨_,rfl⟩;have x1:∀i:Nat,i<a.length+b.length→φ i=χ i:=fun i hi=>by rw [hχ];dsimp only;rw [if_neg (by omega)]
  have x2:φ ((a.length+b.length+most:Nat):Int)=χ ((a.length:Int)+b.length):=by rw [hχ];dsimp only;rw [if_pos rfl]
  have e:=hcv χ;rw [Cm _ (by rw [List.length_append,List.length_append,Fx,lg,lta]),Cm _ lg,Gb] at e;have eG:=Hm χ a.length b.length gate power p 0;have eA:=W7 φ a.length b.length gate power p 0;have eB:=W8 φ a.length b.length p 0;rw [hl] at eG eA eB;rw [eG] at e;unfold Pm;rw [Cm _ (by rw [List.length_append,List.length_append,List.length_append,List.length_append,Fx,List.length_map,List.length_map,List.length_range',lta,hl]),Cm _ (by rw [List.length_append,List.length_append,List.length_map,List.length_map,List.length_range',hl]),Cm _ (by rw [List.length_map,List.length_range',hl]),eA,eB,←Lr];rw [W5 (χ:=χ) x2 a 0 ta (fun i hi=>x1 i (by omega)),W6 (χ:=χ) x2 b 0 tb (fun i hi=>x1 i (by omega))];rw [Ls (χ:=fun r=>χ ((a.length+r%b.length:Nat):Int)-χ ((r%a.length:Nat):Int)) p 0 (fun r _ _=>by
   have:=Nat.mod_lt r ha;have:=Nat.mod_lt r hb;rw [←x1 _ (by omega),←x1 _ (by omega)];omega)]
  exact e
theorem A5j {a b:List api_Span} {most:Nat} {gate:Int} {power:api_Span} {f:List Int} (ha:0<a.length) (hb:0<b.length) (h:Circ (Pm a b most gate power) f):∃p f2,f=p++f2∧PF a b most gate power p:=by
 obtain ⟨hbd,hcv⟩:=h;unfold Pm at hbd hcv;obtain ⟨g1,fb,rfl,h1,h4⟩:=Ha hbd;obtain ⟨g2,fa,rfl,h1,h3⟩:=Ha h1;obtain ⟨p,q,rfl,h1,h2⟩:=Ha h1;have l1:=Gk h1;have l2:=Gk h2;have l3:=Gk h3;rw [List.length_map,List.length_range'] at l1 l2;rw [Fx] at l3;have hC:Circ (Eb a b most gate power) (p++fa++fb):=by
  constructor
  ·unfold Eb;refine Ga (Ga ?_ (A01 _ _ _ _ _ h3)) (A02 _ _ _ _ _ _ h4);rw [Gb,←l1,←A03,l1];exact h1
  ·intro φ;obtain ⟨χ,hχ⟩:∃χ:Int→Int,χ=fun x=>if x<(a.length:Int)+b.length then φ x else if x=((a.length+b.length+most:Nat):Int) then φ ((a.length:Int)+b.length) else φ ((a.length+(x.toNat-(a.length+b.length))%b.length:Nat):Int):=⟨_,rfl⟩;have x1:∀i:Nat,i<a.length+b.length→χ i=φ i:=fun i hi=>by rw [hχ];dsimp only;rw [if_pos (by omega)]
   have x2:χ ((a.length+b.length+most:Nat):Int)=φ ((a.length:Int)+b.length):=by rw [hχ];dsimp only;rw [if_neg (by omega),if_pos rfl]
   have x3:∀r:Nat,r<most→χ ((a.length+b.length+r:Nat):Int)=φ ((a.length+r%b.length:Nat):Int):=fun r hr=>by
    rw [hχ];dsimp only;rw [if_neg (by omega),if_neg (by omega),show ((a.length+b.length+r:Nat):Int).toNat-(a.length+b.length)=r by omega]
   have e:=hcv χ;rw [Cm _ (by rw [List.length_append,List.length_append,List.length_append,List.length_append,Fx,List.length_map,List.length_map,List.length_range',l1,l2,l3]),Cm _ (by rw [List.length_append,List.length_append,List.length_map,List.length_map,List.length_range',l1,l2]),Cm _ (by rw [List.length_map,List.length_range',l1])] at e;rw [W5 (χ:=φ) (d:=(a.length:Int)+b.length) x2 a 0 fa (fun i hi=>x1 i (by omega))] at e;rw [W6 (χ:=φ) (d:=(a.length:Int)+b.length) x2 b 0 fb (fun i hi=>x1 i (by omega))] at e;have eA:=W7 χ a.length b.length gate power p 0;have eB:=W8 χ a.length b.length q 0;rw [l1] at eA;rw [l2] at eB;rw [eA,eB] at e;rw [Ls (ψ:=fun r=>χ ((a.length+r%b.length:Nat):Int)-χ ((a.length+b.length+r:Nat):Int)) (χ:=fun _=>0) q 0 (fun r _ hr=>by
    have:=Nat.mod_lt r hb;rw [x1 _ (by omega),x3 r (by omega)];omega),Mu] at e
   rw [Ls (ψ:=fun r=>χ ((a.length+b.length+r:Nat):Int)-χ ((r%a.length:Nat):Int)) (χ:=fun r=>φ ((a.length+r%b.length:Nat):Int)-φ ((r%a.length:Nat):Int)) p 0 (fun r _ hr=>by
    have:=Nat.mod_lt r ha;rw [x3 r (by omega),x1 _ (by omega)])] at e
   unfold Eb;rw [Cm _ (by rw [List.length_append,List.length_append,Fx,l3];congr 1;unfold gM;rw [List.length_map,List.length_range,l1]),Cm _ (by unfold gM;rw [List.length_map,List.length_range,l1]),Gb];have eG:=Hm φ a.length b.length gate power p 0;rw [l1] at eG;rw [eG];omega
 obtain ⟨p2,f2,e,hp2⟩:=P7 ha hb hC;rw [List.append_assoc] at e;have:=(List.append_inj e (by rw [l1,hp2.len])).1;subst this;exact ⟨p,q++(fa++fb),by rw [List.append_assoc,List.append_assoc],hp2⟩
end Go.Proofs.Ytbhjgebjojdohaa
namespace Go.Proofs.Ytbhjgebjojdohaa
open Go Go.RowKit Go.Eng
set_option maxRecDepth 10000
set_option linter.unusedVariables false
set_option linter.unusedSimpArgs false
theorem Pb (g:Nat→prP) (h1:∀r,(g r).u≠(g r).v) (h2:∀r r',r<r'→¬sE (g r) (g r')):∀l k:Nat,DQ ((List.range' k l).map g)
 | 0,_=>⟨fun p h=>(by cases h),fun e f p q h=>by simp at h⟩
 | l+1,k=>by
  rw [rng];refine DQ.cons (Pb g h1 h2 l (k+1)) (h1 k) fun q hq=>?_;obtain ⟨r,hr,rfl⟩:=List.mem_map.1 hq;have:=List.mem_range'_1.1 hr;exact h2 k r (by omega)
theorem T6 {c:Int}:∀{l:List api_Span} {k:Nat} {p:prP},p∈pQ (aM c k l)→∃i:Nat,k≤i∧i<k+l.length∧p.u=c∧p.v=(i:Int)
 | [],k,p,h=>by cases h
 | s::l,k,p,h=>by
  rw [List.length_cons];rw [aM] at h;rcases List.mem_cons.1 h with rfl|h
  ·exact ⟨k,Nat.le_refl _,by omega,rfl,rfl⟩
  ·obtain ⟨i,a,b,c⟩:=T6 h;exact ⟨i,by omega,by omega,c⟩
theorem X0 {n:Nat} {c:Int}:∀{l:List api_Span} {k:Nat} {p:prP},p∈pQ (bM n c k l)→∃i:Nat,k≤i∧i<k+l.length∧p.u=((n+i:Nat):Int)∧p.v=c
 | [],k,p,h=>by cases h
 | s::l,k,p,h=>by
  rw [List.length_cons];rw [bM] at h;rcases List.mem_cons.1 h with rfl|h
  ·exact ⟨k,Nat.le_refl _,by omega,rfl,rfl⟩
  ·obtain ⟨i,a,b,c⟩:=X0 h;exact ⟨i,by omega,by omega,c⟩
theorem A3k {c:Nat}:∀(l:List api_Span) (k:Nat),k+l.length≤c→DQ (pQ (aM (c:Int) k l))
 | [],_,_=>⟨fun p h=>(by cases h),fun e f p q h=>by simp [aM,pQ] at h⟩
 | s::l,k,h=>by
  rw [List.length_cons] at h;refine DQ.cons (p:=⟨c,k,s.Hi-s.Lo,0⟩) (A3k l (k+1) (by omega)) (by dsimp only;omega) fun q hq=>?_;obtain ⟨i,a,b,d,e⟩:=T6 hq;unfold sE;dsimp only;omega
theorem A3l {n c:Nat}:∀(l:List api_Span) (k:Nat),n+k+l.length≤c→DQ (pQ (bM n (c:Int) k l))
 | [],_,_=>⟨fun p h=>(by cases h),fun e f p q h=>by simp [bM,pQ] at h⟩
 | s::l,k,h=>by
  rw [List.length_cons] at h;refine DQ.cons (p:=⟨((n+k:Nat):Int),c,s.Hi-s.Lo,0⟩) (A3l l (k+1) (by omega)) (by dsimp only;omega) fun q hq=>?_;obtain ⟨i,a,b,d,e⟩:=X0 hq;unfold sE;dsimp only;omega
theorem X6 (M N:List cnP):pQ (M++N)=pQ M++pQ N:=by unfold pQ;rw [List.map_append]
theorem A4r {a b:List api_Span} (ha:0<a.length) (hb:0<b.length) (most:Nat) (gate:Int) (power:api_Span):DQ (pQ (Pm a b most gate power)):=by
 unfold Pm;rw [X6,X6,X6];have mA:∀p∈pQ ((List.range' 0 most).map fun r=>cP (gA a.length b.length gate power r)),∃r:Nat,r<most∧p.u=((r%a.length:Nat):Int)∧p.v=((a.length+b.length+r:Nat):Int):=fun p hp=>by
  unfold pQ at hp;rw [List.map_map] at hp;obtain ⟨r,hr,rfl⟩:=List.mem_map.1 hp;have:=List.mem_range'_1.1 hr;exact ⟨r,by omega,rfl,rfl⟩
 have mB:∀p∈pQ ((List.range' 0 most).map fun r=>cP (gB a.length b.length r)),∃r:Nat,r<most∧p.u=((a.length+b.length+r:Nat):Int)∧p.v=((a.length+r%b.length:Nat):Int):=fun p hp=>by
  unfold pQ at hp;rw [List.map_map] at hp;obtain ⟨r,hr,rfl⟩:=List.mem_map.1 hp;have:=List.mem_range'_1.1 hr;exact ⟨r,by omega,rfl,rfl⟩
 have dA:DQ (pQ ((List.range' 0 most).map fun r=>cP (gA a.length b.length gate power r))):=by
  unfold pQ;rw [List.map_map];refine Pb _ (fun r=>?_) (fun r r' h=>?_) _ _
  ·have:=Nat.mod_lt r ha;show ((r%a.length:Nat):Int)≠((a.length+b.length+r:Nat):Int);omega
  ·have:=Nat.mod_lt r ha;have:=Nat.mod_lt r' ha;show ¬((((r%a.length:Nat):Int)=((r'%a.length:Nat):Int)∧((a.length+b.length+r:Nat):Int)=((a.length+b.length+r':Nat):Int))∨(((r%a.length:Nat):Int)=((a.length+b.length+r':Nat):Int)∧((a.length+b.length+r:Nat):Int)=((r'%a.length:Nat):Int)));omega
 have dB:DQ (pQ ((List.range' 0 most).map fun r=>cP (gB a.length b.length r))):=by
  unfold pQ;rw [List.map_map];refine Pb _ (fun r=>?_) (fun r r' h=>?_) _ _
  ·have:=Nat.mod_lt r hb;show ((a.length+b.length+r:Nat):Int)≠((a.length+r%b.length:Nat):Int);omega
  ·have:=Nat.mod_lt r hb;have:=Nat.mod_lt r' hb;show ¬((((a.length+b.length+r:Nat):Int)=((a.length+b.length+r':Nat):Int)∧((a.length+r%b.length:Nat):Int)=((a.length+r'%b.length:Nat):Int))∨(((a.length+b.length+r:Nat):Int)=((a.length+r'%b.length:Nat):Int)∧((a.length+r%b.length:Nat):Int)=((a.length+b.length+r':Nat):Int)));omega
 refine ((dA.app dB fun x hx y hy=>?_).app (A3k a 0 (by omega)) fun x hx y hy=>?_).app (A3l b 0 (by omega)) fun x hx y hy=>?_
 ·obtain ⟨r,r1,r2,r3⟩:=mA x hx;obtain ⟨q,q1,q2,q3⟩:=mB y hy;have:=Nat.mod_lt r ha;have:=Nat.mod_lt q hb;unfold sE;omega
 ·obtain ⟨i,i1,i2,i3,i4⟩:=T6 hy;rcases List.mem_append.1 hx with hx|hx
  ·obtain ⟨r,r1,r2,r3⟩:=mA x hx;have:=Nat.mod_lt r ha;unfold sE;omega
  ·obtain ⟨r,r1,r2,r3⟩:=mB x hx;have:=Nat.mod_lt r hb;unfold sE;omega
 ·obtain ⟨i,i1,i2,i3,i4⟩:=X0 hy;rcases List.mem_append.1 hx with hx|hx
  ·rcases List.mem_append.1 hx with hx|hx
   ·obtain ⟨r,r1,r2,r3⟩:=mA x hx;have:=Nat.mod_lt r ha;unfold sE;omega
   ·obtain ⟨r,r1,r2,r3⟩:=mB x hx;have:=Nat.mod_lt r hb;unfold sE;omega
  ·obtain ⟨j,j1,j2,j3,j4⟩:=T6 hx;unfold sE;omega
theorem A3m {c:Int}:∀{l:List api_Span} {k:Nat} {x:cnP},x∈aM c k l→∃(i:Nat) (s:api_Span),s∈l∧k≤i∧i<k+l.length∧x=⟨c,(i:Int),s.Lo,s.Hi⟩
 | [],k,x,h=>by cases h
 | s::l,k,x,h=>by
  rw [List.length_cons];rw [aM] at h;rcases List.mem_cons.1 h with rfl|h
  ·exact ⟨k,s,List.mem_cons_self ..,Nat.le_refl _,by omega,rfl⟩
  ·obtain ⟨i,t,ht,a,b,c⟩:=A3m h;exact ⟨i,t,List.mem_cons_of_mem _ ht,by omega,by omega,c⟩
theorem A3p {n:Nat} {c:Int}:∀{l:List api_Span} {k:Nat} {x:cnP},x∈bM n c k l→∃(i:Nat) (s:api_Span),s∈l∧k≤i∧i<k+l.length∧x=⟨((n+i:Nat):Int),c,s.Lo,s.Hi⟩
 | [],k,x,h=>by cases h
 | s::l,k,x,h=>by
  rw [List.length_cons];rw [bM] at h;rcases List.mem_cons.1 h with rfl|h
  ·exact ⟨k,s,List.mem_cons_self ..,Nat.le_refl _,by omega,rfl⟩
  ·obtain ⟨i,t,ht,a,b,c⟩:=A3p h;exact ⟨i,t,List.mem_cons_of_mem _ ht,by omega,by omega,c⟩
theorem Tg {K:Nat} {u v lo hi:Int} (hu:0≤u∧u<K) (hv:0≤v∧v<K) (h:u≠v) (h1:0≤lo∧lo≤hi∧hi≤1073741824):okC (K+2) (K:Int) ((K:Int)+1) ⟨u,v,lo,hi⟩ :=
 ⟨by dsimp only;omega,by dsimp only;omega,h,by dsimp only;omega,by dsimp only;omega,by dsimp only;omega,by dsimp only;omega,h1.1,h1.2.1,h1.2.2⟩
theorem A2q {a b:List api_Span} (ha:0<a.length) (hb:0<b.length) (has:∀s∈a,okS s) (hbs:∀s∈b,okS s) {most:Nat} {gate:Int} {power:api_Span} (hp:okS power) {K:Nat} (hK:K=a.length+b.length+most+1):∀c∈Pm a b most gate power,okC (K+2) (K:Int) ((K:Int)+1) c:=fun c hc=>by
 unfold Pm at hc;rcases List.mem_append.1 hc with hc|hc
 ·rcases List.mem_append.1 hc with hc|hc
  ·rcases List.mem_append.1 hc with hc|hc
   ·obtain ⟨r,hr,rfl⟩:=List.mem_map.1 hc;have:=List.mem_range'_1.1 hr;have:=Nat.mod_lt r ha;exact Tg (u:=((r%a.length:Nat):Int)) (v:=((a.length+b.length+r:Nat):Int)) (by omega) (by omega) (by omega) (Xu hp r)
   ·obtain ⟨r,hr,rfl⟩:=List.mem_map.1 hc;have:=List.mem_range'_1.1 hr;have:=Nat.mod_lt r hb;exact Tg (u:=((a.length+b.length+r:Nat):Int)) (v:=((a.length+r%b.length:Nat):Int)) (lo:=0) (hi:=1073741824) (by omega) (by omega) (by omega) (by omega)
  ·obtain ⟨i,s,hs,h1,h2,rfl⟩:=A3m hc;exact Tg (by omega) (by omega) (by omega) (has s hs)
 ·obtain ⟨i,s,hs,h1,h2,rfl⟩:=A3p hc;exact Tg (by omega) (by omega) (by omega) (hbs s hs)
theorem A0d (a b:List api_Span) (most:Nat) (gate:Int) (power:api_Span):(Yk a b most gate power).length=most+most+a.length+b.length:=by
 unfold Yk;rw [List.length_append,List.length_append,List.length_append,List.length_map,List.length_map,List.length_range',Zs,A4k]
end Go.Proofs.Ytbhjgebjojdohaa
namespace Go.Proofs.Ytbhjgebjojdohaa
open Go Go.RowKit Go.Eng
set_option maxRecDepth 10000
set_option linter.unusedVariables false
set_option linter.unusedSimpArgs false
theorem Li (l:List ref03_Pipe) (p:ref03_Pipe) (h:l.length≤10000):apd 32 l [p]=some (l++[p]):=by unfold apd;rw [if_pos ⟨by rw [List.length_singleton];omega,by rw [List.length_singleton];omega⟩]
theorem Sr {x:Nat} (h:x≤10000):ck ((x:Int)+1)=some ((x+1:Nat):Int):=by rw [ckJ (by omega),Int.natCast_add];rfl
theorem S0 {α:Type} {a:List α} {s:α} {rest:List α} {k:Nat} (h:a.drop k=s::rest):getI a (k:Int)=some s∧a.drop (k+1)=rest∧k<a.length:=by
 have hl:k<a.length:=by
  by_cases hk:k<a.length
  ·exact hk
  ·rw [List.drop_eq_nil_of_le (by omega)] at h;cases h
 rw [List.drop_eq_getElem_cons hl] at h;injection h with h1 h2;exact ⟨by rw [getI_nat,List.getElem?_eq_getElem hl,h1],h2,hl⟩
theorem Uf {α:Type} {a:List α} {k:Nat} (h:a.drop k=[]):a.length≤k:=by
 have:=List.drop_eq_nil_iff.1 h;exact this
theorem A46 {F:Nat} {a b:List api_Span} (hn:a.length≤100) (hm:b.length≤100) {most:Int} {c:Int}:∀(n k:Nat) (rest:List api_Span) (acc:List ref03_Pipe),b.drop k=rest→k≤b.length→rest.length<n→acc.length+rest.length≤1000 →
  C1 F a b most c n acc (k:Int)=Ck F most c (acc++bP a.length c k rest)
 | 0,_,_,_,_,_,h,_=>by omega
 | n+1,k,[],acc,hd,hk,hn',ha=>by
  rw [C1,Dq,decide_eq_false (by have:=Uf hd;omega:¬(k:Int)<((b.length:Nat):Int)),cond_false,bP,List.append_nil]
 | n+1,k,s::rest,acc,hd,hk,hn',ha=>by
  obtain ⟨h1,h2,h3⟩:=S0 hd;rw [List.length_cons] at hn' ha;rw [C1,Dq,decide_eq_true (by omega:(k:Int)<((b.length:Nat):Int)),cond_true];rw [A5 (show ck (((a.length:Nat):Int)+(k:Int))=some ((a.length+k:Nat):Int) by rw [ckJ (by omega),Int.natCast_add])];rw [A5 h1,A5 (Li _ _ (by omega)),A5 (Sr (by omega))];rw [A46 hn hm n (k+1) rest _ h2 (by omega) (by omega) (by rw [List.length_append,List.length_singleton];omega),List.append_assoc];rfl
theorem A45 {F:Nat} {a b:List api_Span} (hn:a.length≤100) (hm:b.length≤100) {most:Int} {c:Int}:∀(n k:Nat) (rest:List api_Span) (acc:List ref03_Pipe),a.drop k=rest→k≤a.length→rest.length<n→acc.length+rest.length≤1000 →
  C2 F a b most c n acc (k:Int)=Dv F a b most c (acc++aP c k rest)
 | 0,_,_,_,_,_,h,_=>by omega
 | n+1,k,[],acc,hd,hk,hn',ha=>by
  rw [C2,Dr,decide_eq_false (by have:=Uf hd;omega:¬(k:Int)<((a.length:Nat):Int)),cond_false,aP,List.append_nil]
 | n+1,k,s::rest,acc,hd,hk,hn',ha=>by
  obtain ⟨h1,h2,h3⟩:=S0 hd;rw [List.length_cons] at hn' ha;rw [C2,Dr,decide_eq_true (by omega:(k:Int)<((a.length:Nat):Int)),cond_true];rw [A5 h1,A5 (Li _ _ (by omega)),A5 (Sr (by omega))];rw [A45 hn hm n (k+1) rest _ h2 (by omega) (by omega) (by rw [List.length_append,List.length_singleton];omega),List.append_assoc];rfl
theorem A47 {F:Nat} {a b:List api_Span} (hn:a.length≤100) (hm:0<b.length∧b.length≤100) {most:Nat} (hmo:most≤100) {c:Int}:∀(n l k:Nat) (acc:List ref03_Pipe),k+l=most→l<n→acc.length+l≤1000 →
  C3 F a b (most:Int) c n acc (k:Int)=Du F a b (most:Int) c (acc++(List.range' k l).map (gB a.length b.length))
 | 0,_,_,_,_,h,_=>by omega
 | n+1,0,k,acc,hk,hn',ha=>by
  rw [C3,Ds,decide_eq_false (by omega:¬(k:Int)<(most:Int)),cond_false,List.range'_zero,List.map_nil,List.append_nil]
 | n+1,l+1,k,acc,hk,hn',ha=>by
  have:=Nat.mod_lt k hm.1;rw [C3,Ds,decide_eq_true (by omega:(k:Int)<(most:Int)),cond_true];rw [A5 (show ck (((a.length:Nat):Int)+((b.length:Nat):Int))=some ((a.length+b.length:Nat):Int) by rw [ckJ (by omega),Int.natCast_add])];rw [A5 (show ck (((a.length+b.length:Nat):Int)+(k:Int))=some ((a.length+b.length+k:Nat):Int) by rw [ckJ (by omega),Int.natCast_add (a.length+b.length) k])];rw [A5 (show Gn (k:Int) ((b.length:Nat):Int)=some ((k%b.length:Nat):Int) by unfold Gn;rw [if_neg (by omega)];rfl)];rw [A5 (show ck (((a.length:Nat):Int)+((k%b.length:Nat):Int))=some ((a.length+k%b.length:Nat):Int) by rw [ckJ (by omega),Int.natCast_add])];rw [A5 (Li _ _ (by omega)),A5 (Sr (by omega))];rw [A47 hn hm hmo n l (k+1) _ (by omega) (by omega) (by rw [List.length_append,List.length_singleton];omega),List.append_assoc,rng];rfl
theorem A48 {F:Nat} {a b:List api_Span} (hn:0<a.length∧a.length≤100) (hm:b.length≤100) {most:Nat} (hmo:most≤100) {gate:Int} {power:api_Span} {c:Int}:∀(n l k:Nat) (acc:List ref03_Pipe),k+l=most→l<n→acc.length+l≤1000 →
  Bl F a b (most:Int) gate power c n acc (k:Int)=Cj F a b (most:Int) c (acc++(List.range' k l).map (gA a.length b.length gate power))
 | 0,_,_,_,_,h,_=>by omega
 | n+1,0,k,acc,hk,hn',ha=>by
  rw [Bl,Dt,decide_eq_false (by omega:¬(k:Int)<(most:Int)),cond_false,List.range'_zero,List.map_nil,List.append_nil]
 | n+1,l+1,k,acc,hk,hn',ha=>by
  have:=Nat.mod_lt k hn.1;have step:∀lo hi:Int,gS gate power k=⟨lo,hi⟩→Cl a b acc (k:Int) (Bl F a b (most:Int) gate power c n) lo hi=Cj F a b (most:Int) c (acc++(List.range' k (l+1)).map (gA a.length b.length gate power)):=fun lo hi hg=>by
   rw [Cl];rw [A5 (show Gn (k:Int) ((a.length:Nat):Int)=some ((k%a.length:Nat):Int) by unfold Gn;rw [if_neg (by omega)];rfl)];rw [A5 (show ck (((a.length:Nat):Int)+((b.length:Nat):Int))=some ((a.length+b.length:Nat):Int) by rw [ckJ (by omega),Int.natCast_add])];rw [A5 (show ck (((a.length+b.length:Nat):Int)+(k:Int))=some ((a.length+b.length+k:Nat):Int) by rw [ckJ (by omega),Int.natCast_add (a.length+b.length) k])];rw [A5 (Li _ _ (by omega)),A5 (Sr (by omega))];rw [A48 hn hm hmo n l (k+1) _ (by omega) (by omega) (by rw [List.length_append,List.length_singleton];omega),List.append_assoc,rng,←hg];rfl
  rw [Bl,Dt,decide_eq_true (by omega:(k:Int)<(most:Int)),cond_true]
  cases hg:((k:Int)==gate) with
  | true=>rw [cond_true];exact step _ _ (by unfold gS;rw [hg];rfl)
  | false=>rw [cond_false];exact step _ _ (by unfold gS;rw [hg];rfl)
theorem Zn {F:Nat} (hF:1000000000000≤F) {a b:List api_Span} (ha:0<a.length∧a.length≤6) (hb:0<b.length∧b.length≤6) (has:∀s∈a,okS s) (hbs:∀s∈b,okS s) {most:Nat} (hmo:most≤14):U2 F a b most:=fun gate power hp=>by
 obtain ⟨K,hK⟩:∃K,K=a.length+b.length+most+1:=⟨_,rfl⟩;obtain ⟨l,is,c1,c2,c3⟩:=W4 (K:=K) (by omega) hF (pipes:=Yk a b most gate power) (by rw [Pn];exact A2q ha.1 hb.1 has hbs hp hK) (by rw [A0d];omega) (by rw [Pn];exact A4r ha.1 hb.1 most gate power);rw [Pn] at c2 c3;have run:Bp F a b (most:Int) gate power=Ck F (most:Int) ((a.length+b.length+most:Nat):Int) (Yk a b most gate power):=by
  rw [Bp];rw [A5 (show ck (((a.length:Nat):Int)+((b.length:Nat):Int))=some ((a.length+b.length:Nat):Int) by rw [ckJ (by omega),Int.natCast_add])];rw [A5 (show ck (((a.length+b.length:Nat):Int)+(most:Int))=some ((a.length+b.length+most:Nat):Int) by rw [ckJ (by omega),Int.natCast_add (a.length+b.length) most])];refine Eq.trans (A48 ⟨ha.1,by omega⟩ (by omega) (by omega) F most 0 [] (by omega) (by omega) (by rw [List.length_nil];omega)) ?_;rw [List.nil_append,Cj];refine Eq.trans (A47 (by omega) ⟨hb.1,by omega⟩ (by omega) F most 0 _ (by omega) (by omega) (by rw [List.length_map,List.length_range'];omega)) ?_;rw [Du];refine Eq.trans (A45 (by omega) (by omega) F 0 a _ rfl (by omega) (by omega) (by rw [List.length_append,List.length_map,List.length_map,List.length_range'];omega)) ?_;rw [Dv];refine Eq.trans (A46 (by omega) (by omega) F 0 b _ rfl (by omega) (by omega) (by rw [List.length_append,List.length_append,List.length_map,List.length_map,List.length_range',Zs];omega)) ?_;rfl
 have e:Bp F a b (most:Int) gate power=bif (!is) then (some (([]:(List Int)),false)) else ((Hp l (0:Int) (most:Int)).bind fun l174=>some (l174,true)):=by
  rw [run,Ck,A5 (show ck (((a.length+b.length+most:Nat):Int)+1)=some (K:Int) by rw [ckJ (by omega),hK,Int.natCast_add (a.length+b.length+most) 1];rfl),A5 c1]
 cases is with
 | false=>exact ⟨[],false,e,fun h=>(by cases h),fun _ p hp'=>by
   obtain ⟨f,hf⟩:=A4s ha.1 hb.1 hp hp';exact c3 rfl f hf⟩
 | true =>
  obtain ⟨p,f2,rfl,hpf⟩:=A5j ha.1 hb.1 (c2 rfl);refine ⟨p,true,?_,fun _=>hpf,fun h=>(by cases h)⟩
  rw [e,Bool.not_true,cond_false,A5 (show Hp (p++f2) 0 (most:Int)=some p by
   unfold Hp;rw [if_pos ⟨by omega,by omega,by rw [List.length_append,hpf.len];omega⟩]
   congr 1
   rw [Int.toNat_natCast];show ((p++f2).take _)=_;rw [show most-(0:Int).toNat=p.length by rw [hpf.len];rfl,List.take_left'  rfl])]
theorem Si (a b:List api_Span) (p2 p3 p4:Int):D3 1000000000000 a b p2 p3 p4=some true:=by
 refine Sj (Nat.le_refl _) a b p2 p3 p4 fun most hm h0 hal hbl hmo=>?_;obtain ⟨oa,ob,m1,m2⟩:=Wt h0;have ka:=Ht oa;have kb:=Ht ob;exact Zn (Nat.le_refl _) ⟨ka.1.1,hal⟩ ⟨kb.1.1,hbl⟩ ka.2 kb.2 hmo
end Go.Proofs.Ytbhjgebjojdohaa
