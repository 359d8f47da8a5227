import Derived.Test.YtbhjgebjojdohaaF12XA
set_option linter.unusedVariables false
set_option linter.unusedSimpArgs false
set_option linter.unusedSectionVars false
namespace Go.Proofs.Ytbhjgebjojdohaa
open Go Go.RowKit Go.Eng
set_option maxRecDepth 10000
set_option linter.unusedVariables false
set_option linter.unusedSimpArgs false
theorem X3 {Q R:List prP} (h:Sm Q R):Top (flatP 0 Q) (flatP 0 R):=by
 refine ⟨by rw [C6,C6,h.len],fun i x hx=>?_⟩;obtain ⟨e,p,hp,hc⟩:=Jl hx;obtain ⟨q,hq,q1,q2,q3⟩:=h.get hp;have hg:=C2 (k:=0) hq;rw [Nat.zero_add] at hg;rcases hc with ⟨rfl,rfl⟩|⟨rfl,rfl⟩
 ·exact ⟨q.r,by rw [hg.1,q2]⟩
 ·exact ⟨q.c,by rw [hg.2,q1]⟩
theorem A1u {a b:List api_Span} {most:Nat} {F:Nat} {fr:List (List Int)} (ha:0<a.length∧a.length≤100) (hb:0<b.length∧b.length≤100) (hF:1000000000000≤F) (hk:∀c∈D4 a b most (-1) ⟨0,0⟩,okC (a.length+b.length+3) ((a.length:Int)+b.length+1) ((a.length:Int)+b.length+2) c)
  (hfr:FR (a.length+b.length+3) fr (flatP 0 (netQ ((a.length:Int)+b.length+1) ((a.length:Int)+b.length+2) (D4 a b most (-1) ⟨0,0⟩)))) {r:Nat} (hr:r<most) {p0:List Int} (hp0:PF a b most (-1) ⟨0,0⟩ p0) {x0 n:Int} (hx0:p0[r]? = some x0) (hn:x0≤n∧n≤1073741824) :
  ∃p2 x,PF a b most (-1) ⟨0,0⟩ p2∧p2[r]? = some x∧x≤n∧(x<n→∀p3,PF a b most (-1) ⟨0,0⟩ p3→∀y,p3[r]? = some y→y≤x):=by
 obtain ⟨M,hM⟩:∃M,M=D4 a b most (-1) ⟨0,0⟩:=⟨_,rfl⟩;obtain ⟨e0,he0⟩:∃e0:Int,e0=(a.length:Int)+b.length+1:=⟨_,rfl⟩;obtain ⟨e1,he1⟩:∃e1:Int,e1=(a.length:Int)+b.length+2:=⟨_,rfl⟩;have hf:=Jh ha.1 hb.1 hp0;rw [List.append_assoc] at hf;obtain ⟨f0,hf0⟩:∃f0,f0=tab (fun i=>sumAt a.length i p0) 0 a.length++tab (fun i=>sumAt b.length i p0) 0 b.length:=⟨_,rfl⟩;rw [←hf0] at hf;have g0:=Fz (a:=a) (b:=b) (gate:=-1) (power:=⟨0,0⟩) (f2:=f0) (e0:=e0) (e1:=e1) hp0.len hx0;have b0:=hp0.gb r x0 hx0;rw [Dz] at g0 b0;have hmu:=Nat.mod_lt r ha.1;have hmv:=Nat.mod_lt r hb.1;rw [←he0,←he1] at hk hfr;generalize hee:(netQ e0 e1 (gM a.length b.length (-1) ⟨0,0⟩ r)).length=e at g0;rw [←hM] at hk hf hfr g0;replace hfr:=K7 (X3 (Gh hk hf.bd).1) hfr;have fin:∀(R:List prP) (d1 d2:Int),R[e]? = some ⟨((r%a.length:Nat):Int),((a.length+r%b.length:Nat):Int),1073741824-x0,x0-0⟩→Sm (netQ e0 e1 M) R→NN R→0≤d1→0≤d2→d1+d2=1073741824→(∀φ,WQ φ R=WQ φ (rsP e0 e1 M (p0++f0))+(1073741824-x0-d1)*(φ ((a.length+r%b.length:Nat):Int)-φ ((r%a.length:Nat):Int))) →
   ∃p2,PF a b most (-1) ⟨0,0⟩ p2∧p2[r]? = some d2:=by
  intro R d1 d2 hRe hS hN h1 h2 h3 hw;have hl:=(List.getElem?_eq_some_iff.1 hRe).1;obtain ⟨f2,k1,k2⟩:=Lb (e0:=e0) (e1:=e1) (by omega) hk hf (R:=R.set e ⟨((r%a.length:Nat):Int),((a.length+r%b.length:Nat):Int),d1,d2⟩) ⟨by rw [List.length_set,hS.len],fun i u v hu hv=>by
   by_cases ei:e=i
   ·subst ei;rw [List.getElem?_set_self hl] at hv
    cases hv
    have:=hS.at_ e u _ hu hRe;dsimp only at this ⊢;exact ⟨this.1,this.2.1,by omega⟩
   ·rw [List.getElem?_set_ne ei] at hv;exact hS.at_ i u v hu hv⟩ (fun u hu=>by
   rcases List.mem_or_eq_of_mem_set hu with hu|rfl
   ·exact hN u hu
   ·exact ⟨h1,h2⟩) (fun φ=>by
   rw [M6 φ hRe,hw];dsimp only;have t1:(1073741824-x0-d1)*(φ ((a.length+r%b.length:Nat):Int)-φ ((r%a.length:Nat):Int))=(1073741824-x0-d1)*φ ((a.length+r%b.length:Nat):Int)-(1073741824-x0-d1)*φ ((r%a.length:Nat):Int):=Int.mul_sub _ _ _;have t2:(1073741824-x0-d1)*φ ((a.length+r%b.length:Nat):Int)=(1073741824-x0)*φ ((a.length+r%b.length:Nat):Int)-d1*φ ((a.length+r%b.length:Nat):Int):=Int.sub_mul _ _ _;have t3:(x0-0)*φ ((r%a.length:Nat):Int)+(1073741824-x0-d1)*φ ((r%a.length:Nat):Int)=d2*φ ((r%a.length:Nat):Int):=by rw [←Int.add_mul];congr 1;omega
   omega)
  rw [hM] at k1;obtain ⟨p2,f3,rfl,k3⟩:=Ly ha.1 hb.1 k1;obtain ⟨x2,hx2⟩:∃x,p2[r]? = some x:=⟨_,List.getElem?_eq_getElem (by rw [k3.len];exact hr)⟩;have g2:=Fz (a:=a) (b:=b) (gate:=-1) (power:=⟨0,0⟩) (f2:=f3) (e0:=e0) (e1:=e1) k3.len hx2;rw [hee,←hM,←k2,List.getElem?_set_self hl,Dz] at g2;have e2:=Option.some.inj g2;rw [prP.mk.injEq] at e2;have hd2:d2=x2:=by
   have e3:=e2.2.2.2;dsimp only at e3;omega
  exact ⟨p2,k3,by rw [hx2,hd2]⟩
 have wall:∀(f2:List Int),Circ M f2→∀φ,WQ φ (rsP e0 e1 M f2)=WQ φ (rsP e0 e1 M (p0++f0)):=fun f2 h2 φ=>by
  have e1':=(Gh hk h2.bd).2.2 φ;have e2':=(Gh hk hf.bd).2.2 φ;rw [h2.cv] at e1';rw [hf.cv] at e2';omega
 have third:∀p3,PF a b most (-1) ⟨0,0⟩ p3→∀y,p3[r]? = some y→∃f3,Circ M f3∧(rsP e0 e1 M f3)[e]? = some ⟨((r%a.length:Nat):Int),((a.length+r%b.length:Nat):Int),1073741824-y,y-0⟩∧0≤y∧y≤1073741824:=fun p3 h3 y hy=>by
  have c3:=Jh ha.1 hb.1 h3;rw [List.append_assoc] at c3;have g3:=Fz (a:=a) (b:=b) (gate:=-1) (power:=⟨0,0⟩) (f2:=tab (fun i=>sumAt a.length i p3) 0 a.length++tab (fun i=>sumAt b.length i p3) 0 b.length) (e0:=e0) (e1:=e1) h3.len hy;rw [hee,Dz] at g3;have b3:=h3.gb r y hy;rw [Dz] at b3;rw [hM];exact ⟨_,c3,g3,b3⟩
 dsimp only at b0;obtain ⟨q,R,c1,c2,c3,c4,c5,c6,c7,c8,c9,c10⟩:=Y7 (by omega) (by omega) (by omega) (by omega) hk hf hfr g0 hF (s:=((a.length+r%b.length:Nat):Int)) (d:=((r%a.length:Nat):Int)) (most:=n-x0) (by omega) (by omega) (by omega);obtain ⟨p2,k4,k5⟩:=fin R (1073741824-x0-q.1) (x0-0+q.1) c3 c6 c7 (by omega) (by omega) (by omega) (fun φ=>by rw [c9 φ];congr 2;omega);refine ⟨p2,_,k4,k5,by omega,fun hlt p3 h3 y hy=>?_⟩;obtain ⟨f4,m1,m2,m3⟩:=third p3 h3 y hy;obtain ⟨S,z1,z2,z3⟩:=c10 (by omega);have z:=z3 f4 m1 _ m2;dsimp only at z;rw [wall f4 m1,c9,show ind S ((a.length+r%b.length:Nat):Int)=1 from if_pos z1,show ind S ((r%a.length:Nat):Int)=0 from if_neg (by rw [z2];simp)] at z;omega
theorem A0h {a b:List api_Span} {most:Nat} (ha:0<a.length∧a.length≤100) (hb:0<b.length∧b.length≤100) (has:∀s∈a,okS s) (hbs:∀s∈b,okS s) (hmo:most≤100) {r:Nat} (hr:r<most) {p q:List Int} (hp:PF a b most (-1) ⟨0,0⟩ p) (hq:PF a b most (-1) ⟨0,0⟩ q) {x y n:Int} (hx:p[r]? = some x) (hy:q[r]? = some y) (hn:x≤n∧n≤y):∃p2,PF a b most (-1) ⟨0,0⟩ p2∧p2[r]? = some n:=by
 obtain ⟨t,s,h1,h2,h3⟩:=Mr ha hb has hbs hmo (gate:=-1) (power:=⟨0,0⟩) ⟨Int.le_refl _,Int.le_refl _,by decide⟩ (Nat.le_refl 1000000000000);have b0:=hq.gb r y hy;rw [Dz] at b0;dsimp only at b0;obtain ⟨p2,z,g1,g2,g3,g4⟩:=A1u ha hb (Nat.le_refl 1000000000000) h2.ok (by rw [←h2.net.arcs];exact h2.net.fr) hr hp hx ⟨hn.1,by omega⟩;refine ⟨p2,g1,?_⟩
 by_cases h:z<n
 ·have:=g4 h q hq y hy;omega
 ·rw [g2];congr 1;omega
end Go.Proofs.Ytbhjgebjojdohaa
namespace Go.Proofs.Ytbhjgebjojdohaa
open Go Go.RowKit Go.Eng
set_option maxRecDepth 10000
set_option linter.unusedVariables false
set_option linter.unusedSimpArgs false
theorem ckS {x:Nat} (h:x≤10000):ck ((x:Int)+1)=some ((x+1:Nat):Int):=by rw [ckJ (by omega),Int.natCast_add];rfl
theorem Np (n:Nat) (h:n≤1000):mkI 8 ((n:Nat):Int) (0:Int)=some (sums n []):=by
 unfold mkI;rw [if_pos ⟨by omega,by omega,by omega⟩,Int.toNat_natCast]
 congr 1
 apply List.ext_getElem?;intro k;unfold sums;rw [List.getElem?_replicate,List.getElem?_map]
 by_cases hk:k<n
 ·rw [if_pos hk,List.getElem?_range hk];rfl
 ·rw [if_neg hk,List.getElem?_eq_none (by rw [List.length_range];omega)];rfl
theorem Ui {l:List api_Span} {p:List Int} (hl:l.length≤1000) (hs:∀(i:Nat) (s:api_Span),l[i]? = some s→s.Lo≤sumAt l.length i p∧sumAt l.length i p≤s.Hi):∀(G i:Nat),i≤l.length→l.length-i<G→Cy l (sums l.length p) G (i:Int)=some true
 | 0,_,_,h=>by omega
 | G+1,i,hi,hG=>by
  rw [Cy,Eb]
  by_cases hlt:i<l.length
  ·obtain ⟨s,hd,hx⟩:=Mg (l:=l) (i:=i) hlt;have hx':=hx;rw [getI_nat] at hx';have hb:=hs i s hx';rw [decide_eq_true (by omega:(i:Int)<((l.length:Nat):Int)),cond_true,A9 hx,A9 (Dn hlt),decide_eq_false (by omega:¬sumAt l.length i p<s.Lo)];rw [show gd (((false:Bool))==false&&true) (getI (sums l.length p) (i:Int)) default=getI (sums l.length p) (i:Int) from rfl,A9 (Dn hlt),cond_false,decide_eq_false (by omega:¬sumAt l.length i p>s.Hi),cond_false,A9 (ckS (by omega))];exact Ui hl hs G (i+1) (by omega) (by omega)
  ·rw [decide_eq_false (by omega:¬(i:Int)<((l.length:Nat):Int)),cond_false];rfl
theorem Uj {F:Nat} {l:List api_Span} {p:List Int} (hl:0<l.length) (hp:∀x∈p,0≤x∧x≤1073741824) (hpl:p.length≤100):∀(G r:Nat),r≤p.length→p.length-r<G→Cz F l p G (r:Int) (sums l.length (p.take r))=Dk F l (sums l.length p)
 | 0,_,_,h=>by omega
 | G+1,r,hr,hG=>by
  rw [Cz,Ec]
  by_cases hlt:r<p.length
  ·have hx:p[r]? = some p[r]:=List.getElem?_eq_getElem hlt;have hb:=hp p[r] (List.getElem_mem ..);have hm:=Nat.mod_lt r hl;have ht:(p.take r).length=r:=by rw [List.length_take];omega
   have hsb:=Y9 (n:=l.length) (i:=r%l.length) (p.take r) fun x hx=>hp x (List.mem_of_mem_take hx);rw [ht] at hsb;have hset:=Nq (n:=l.length) (p:=p.take r) (x:=p[r]) hl;rw [ht] at hset;have htk:p.take r++[p[r]]=p.take (r+1):=by rw [List.take_add_one,hx];rfl
   rw [htk] at hset;rw [decide_eq_true (by omega:(r:Int)<((p.length:Nat):Int)),cond_true,A9 (show getI p (r:Int)=some p[r] by rw [getI_nat];exact hx),decide_eq_false (by omega:¬p[r]<0),cond_false,decide_eq_false (by omega:¬p[r]>1073741824),cond_false];rw [A9 (show By (r:Int) ((l.length:Nat):Int)=some ((r%l.length:Nat):Int) by unfold By;rw [if_neg (by omega)];rfl)];rw [A9 (Dn hm),A9 (ckJ (by omega)),A9 (Dn hm),A9 hset,A9 (ckS (by omega))];exact Uj hl hp hpl G (r+1) (by omega) (by omega)
  ·rw [decide_eq_false (by omega:¬(r:Int)<((p.length:Nat):Int)),cond_false,List.take_of_length_le (by omega)]
theorem Ru {F:Nat} (hF:100000≤F) {l:List api_Span} {p:List Int} (hl:0<l.length∧l.length≤1000) (hp:∀x∈p,0≤x∧x≤1073741824) (hpl:p.length≤100) (hs:∀(i:Nat) (s:api_Span),l[i]? = some s→s.Lo≤sumAt l.length i p∧sumAt l.length i p≤s.Hi):D7 F l p=some true:=by
 rw [D7,A9 (Np l.length hl.2)];refine Eq.trans (Uj hl.1 hp hpl F 0 (Nat.zero_le _) (by omega)) ?_;rw [Dk];exact Ui hl.2 hs F 0 (Nat.zero_le _) (by omega)
end Go.Proofs.Ytbhjgebjojdohaa
namespace Go.Proofs.Ytbhjgebjojdohaa
open Go Go.RowKit Go.Eng
set_option maxRecDepth 10000
set_option linter.unusedVariables false
set_option linter.unusedSimpArgs false
def okW (a:List api_Span):Prop:=(0<a.length∧a.length≤5)∧∀s∈a,0≤s.Lo∧s.Lo≤s.Hi∧s.Hi≤100000
theorem okW.s {a:List api_Span} (h:okW a):∀s∈a,okS s:=fun s hs=>by
 have:=h.2 s hs;exact ⟨this.1,this.2.1,by omega⟩
theorem okW.l {a:List api_Span} (h:okW a):0<a.length∧a.length≤100:=⟨h.1.1,by have:=h.1.2;omega⟩
theorem okW.b {a:List api_Span} (h:okW a):S1 a=true:=by
 have:=h.1;unfold S1;rw [decide_eq_true (by omega:1≤a.length),decide_eq_true (by omega:a.length≤200),Bool.true_and,Bool.true_and,List.all_eq_true];exact fun s hs=>(Z0 s).2 (h.s s hs)
theorem Jt {F:Nat} (hF:1000000000000≤F) {a b:List api_Span} (ha:okW a) (hb:okW b) {most:Nat} (hm:0<most∧most≤10):Cg F a b (most:Int)=some 0:=by
 rw [Yo hF];unfold A0f;rw [if_pos ⟨ha.b,hb.b,by omega,by omega⟩]
theorem K1 {a b:List api_Span} (ha:okW a) {most r:Nat} (hr:r<most) {s:api_Span} (hb:okW b) (hs:G9 a b most r s):0≤s.Lo∧s.Lo≤s.Hi∧s.Hi≤100000:=by
 obtain ⟨⟨p,h1,h2⟩,⟨q,h3,h4⟩,h5⟩:=hs;have n1:=U2 h3 s.Lo (List.mem_of_getElem? h4);obtain ⟨x,hx⟩:∃x,a[r%a.length]? = some x:=⟨_,List.getElem?_eq_getElem (Nat.mod_lt r ha.1.1)⟩;obtain ⟨y,hy⟩:∃x,b[r%b.length]? = some x:=⟨_,List.getElem?_eq_getElem (Nat.mod_lt r hb.1.1)⟩;have t:=Zr h1 h2 hx hy;have:=ha.2 x (List.mem_of_getElem? hx);have:=h5 p h1 s.Hi h2;omega
theorem Z6 {F:Nat} (hF:1000000000000≤F) {a b:List api_Span} (ha:okW a) (hb:okW b) {most r:Nat} (hm:0<most∧most≤10) (hr:r<most) {s:api_Span} (hs:G9 a b most r s) {z:Int} (hz:z<s.Lo∨s.Hi<z) (hz2:z≤1073741824):Bm F a b (most:Int) (r:Int) z=some ([],if z<0 then 3 else 14):=by
 by_cases h:z<0
 ·unfold Bm;rw [A9 (Jt hF ha hb hm),show ((0:Int) != 0)=false from rfl,cond_false,decide_eq_false (by omega:¬(r:Int)<0),cond_false,decide_eq_false (by omega:¬(r:Int)≥(most:Int)),cond_false,decide_eq_true h,cond_true,cond_true,if_pos h]
 ·rw [if_neg h];rcases M5 ha.l hb.l ha.s hb.s ⟨hm.1,by omega⟩ hF (Jt hF ha hb hm) hr (power:=z) ⟨by omega,hz2⟩ with ⟨p,h1,h2⟩|⟨h1,_⟩
  ·obtain ⟨h3,h4⟩:=(Py (by omega) hz2 p).1 h2;obtain ⟨x,hx⟩:∃x,p[r]? = some x:=⟨_,List.getElem?_eq_getElem (by rw [h3.len];exact hr)⟩;have:=h4 x hx;have:=hs.2.2 p h3 x hx;omega
  ·exact h1
theorem Y1 {F:Nat} (hF:1000000000000≤F) {a b:List api_Span} (ha:okW a) (hb:okW b) {most r:Nat} (hm:0<most∧most≤10) (hr:r<most) {s:api_Span} (hs:G9 a b most r s) {z:Int} (hz:s.Lo≤z∧z≤s.Hi):∃p,Bm F a b (most:Int) (r:Int) z=some (p,0)∧PF a b most (-1) ⟨0,0⟩ p∧p[r]? = some z:=by
 have ht:=K1 ha hr hb hs;rcases M5 ha.l hb.l ha.s hb.s ⟨hm.1,by omega⟩ hF (Jt hF ha hb hm) hr (power:=z) ⟨by omega,by omega⟩ with ⟨p,h1,h2⟩|⟨_,h1⟩
 ·obtain ⟨h3,h4⟩:=(Py (by omega) (by omega) p).1 h2;obtain ⟨x,hx⟩:∃x,p[r]? = some x:=⟨_,List.getElem?_eq_getElem (by rw [h3.len];exact hr)⟩;have:=h4 x hx;exact ⟨p,h1,h3,by rw [hx];congr 1;omega⟩
 ·obtain ⟨⟨p,g1,g2⟩,⟨q,g3,g4⟩,_⟩:=hs;obtain ⟨p2,k1,k2⟩:=A0h ha.l hb.l ha.s hb.s (by omega) hr g3 g1 g4 g2 hz;exact absurd ((Py (by omega) (by omega) p2).2 ⟨k1,fun w hw=>by rw [k2] at hw;cases hw;exact ⟨Int.le_refl _,Int.le_refl _⟩⟩) (h1 p2)
theorem Yr {F:Nat} (hF:1000000000000≤F) {p1:List Int} {a b:List api_Span} (ha:okW a) (hb:okW b) {r:Nat} (hm:0<p1.length∧p1.length≤10) (hr:r<p1.length) {s:api_Span} (hs:G9 a b p1.length r s) (k3:Int→Option Bool):C8 F p1 a b (r:Int) k3 s=k3 ((r+1:Nat):Int):=by
 have ht:=K1 ha hr hb hs;have step:∀(i z:Int) (k6:Int→Option Bool),(i=0∨i=1)→getI [s.Lo-1,s.Hi+1] i=some z→(z<s.Lo∨s.Hi<z)→z≤1073741824→Bq F p1 a b (r:Int) k3 (s.Lo-1) (s.Hi+1) k6 i=k6 (i+1):=fun i z k6 hi hg hz hz2=>by
  have hp:=Z6 hF ha hb hm hr hs hz hz2;rw [Bq,decide_eq_true (by omega:i<((2:Nat):Int)),cond_true,A9 hg]
  by_cases h:z<0
  ·rw [if_pos h] at hp;rw [decide_eq_true h,cond_true,Bs,A9 hp,show ((3:Int) != 3)=false from rfl,cond_false,A9 (ckJ (by omega))]
  ·rw [if_neg h] at hp;rw [decide_eq_false h,cond_false,Bs,A9 hp,show ((14:Int) != 14)=false from rfl,cond_false,A9 (ckJ (by omega))]
 obtain ⟨G,hG⟩:∃G,F=G+3:=⟨F-3,by omega⟩;rw [C8,A9 (ckJ (by omega)),A9 (ckJ (by omega))];have e:∀n,Az F p1 a b (r:Int) k3 (s.Lo-1) (s.Hi+1) (n+3) 0=k3 ((r+1:Nat):Int):=fun n=>by
  rw [Az,step 0 (s.Lo-1) _ (.inl rfl) rfl (by omega) (by omega),Az,step (0+1) (s.Hi+1) _ (.inr rfl) rfl (by omega) (by omega),Az,Bq,decide_eq_false (by omega:¬((0:Int)+1+1)<((2:Nat):Int)),cond_false,Cq,A9 (ckS (by omega))]
 have:=e G;rw [←hG] at this;exact this
theorem Ys {F:Nat} (hF:1000000000000≤F) {p1:List Int} {a b:List api_Span} (ha:okW a) (hb:okW b) {r:Nat} (hm:0<p1.length∧p1.length≤10) (hr:r<p1.length) {s:api_Span} (hs:G9 a b p1.length r s) (k3:Int→Option Bool) {mid:Int} (hmid:s.Lo≤mid∧mid≤s.Hi):Ao F p1 a b (r:Int) k3 s mid F 0=k3 ((r+1:Nat):Int):=by
 have ht:=K1 ha hr hb hs;have step:∀(i z:Int) (k8:Int→Option Bool),(i=0∨i=1∨i=2)→getI [s.Lo,mid,s.Hi] i=some z→(s.Lo≤z∧z≤s.Hi)→Br F p1 a b (r:Int) k3 s mid k8 i=k8 (i+1):=fun i z k8 hi hg hz=>by
  obtain ⟨p,h1,h2,h3⟩:=Y1 hF ha hb hm hr hs hz;have e2:(((p.length:Nat):Int) != ((p1.length:Nat):Int))=false:=by rw [h2.len];simp
  have f1:=Ru (F:=F) (by omega) (l:=a) ⟨ha.1.1,by have:=ha.1.2;omega⟩ (U2 h2) (by rw [h2.len];omega) h2.sa;have f2:=Ru (F:=F) (by omega) (l:=b) ⟨hb.1.1,by have:=hb.1.2;omega⟩ (U2 h2) (by rw [h2.len];omega) h2.sb;rw [Br,decide_eq_true (by omega:i<((3:Nat):Int)),cond_true,A9 hg,A9 h1];dsimp only;rw [e2,show ((0:Int) != 0)=false from rfl,cond_false];rw [A9 (show gd ((((false:Bool))==false&&true)) (getI p (r:Int)) default=some z by rw [getI_nat];exact h3),show (z != z)=false by simp,cond_false];rw [A9 (show gd ((((false:Bool))==false&&true)) (D7 F a p) default=some true from f1),show (!true)=false from rfl,cond_false];rw [A9 (show gd ((((false:Bool))==false&&true)) (D7 F b p) default=some true from f2),show (!true)=false from rfl,cond_false,cond_false,A9 (ckJ (by omega))]
 obtain ⟨G,hG⟩:∃G,F=G+4:=⟨F-4,by omega⟩;have e:∀n,Ao F p1 a b (r:Int) k3 s mid (n+4) 0=k3 ((r+1:Nat):Int):=fun n=>by
  rw [Ao,step 0 s.Lo _ (.inl rfl) rfl (by omega),Ao,step (0+1) mid _ (.inr (.inl rfl)) rfl hmid,Ao,step (0+1+1) s.Hi _ (.inr (.inr rfl)) rfl (by omega),Ao,Br,decide_eq_false (by omega:¬((0:Int)+1+1+1)<((3:Nat):Int)),cond_false];exact Yr hF ha hb hm hr hs k3
 have:=e G;rw [←hG] at this;exact this
theorem Uf {F:Nat} (hF:1000000000000≤F) {p1:List Int} {a b c d:List api_Span} (ha:okW a) (hb:okW b) (hc:okW c) (hd:okW d) (hm:0<p1.length∧p1.length≤10) (hv:∀x∈p1,0≤x∧x≤255) (hsub:∀q,PF a b p1.length (-1) ⟨0,0⟩ q→PF c d p1.length (-1) ⟨0,0⟩ q)
  (hpw:PF a b p1.length (-1) ⟨0,0⟩ (p1.map fun x=>x.tmod 50)) {L M:List api_Span} (hL:L.length=p1.length) (hMl:M.length=p1.length) (hLs:∀r s,L[r]? = some s→G9 a b p1.length r s) (hMs:∀r s,M[r]? = some s→G9 c d p1.length r s):∀(G r:Nat),r≤p1.length→p1.length-r<G→Bu F p1 a b (L,0) (M,0) G (r:Int)=some true
 | 0,_,_,h=>by omega
 | G+1,r,hr,hG=>by
  rw [Bu,Cp];dsimp only
  by_cases hlt:r<p1.length
  ·obtain ⟨s,hs⟩:∃x,L[r]? = some x:=⟨_,List.getElem?_eq_getElem (by omega)⟩;obtain ⟨t,ht⟩:∃x,M[r]? = some x:=⟨_,List.getElem?_eq_getElem (by omega)⟩;obtain ⟨x,hx⟩:∃x,p1[r]? = some x:=⟨_,List.getElem?_eq_getElem hlt⟩;have sk:=hLs r s hs;have tk:=hMs r t ht;have hxv:=hv x (List.mem_of_getElem? hx);have st:=K1 ha hlt hb sk;have hp:=sk.2.2 _ hpw (x.tmod 50) (by rw [List.getElem?_map,hx];rfl);obtain ⟨⟨q1,g1,g2⟩,⟨q2,g3,g4⟩,_⟩:=sk;have w1:=tk.2.2 q1 (hsub q1 g1) s.Hi g2;have w2:=tk.2.2 q2 (hsub q2 g3) s.Lo g4;have sk:=hLs r s hs;rw [decide_eq_true (by omega:(r:Int)<((L.length:Nat):Int)),cond_true];rw [A9 (show getI L (r:Int)=some s by rw [getI_nat];exact hs),A9 (show getI p1 (r:Int)=some x by rw [getI_nat];exact hx),A9 (ckJ (by omega))];rw [A9 (show By x 50=some (x.tmod 50) by unfold By;rw [if_neg (by omega)])];rw [decide_eq_false (by omega:¬x.tmod 50<s.Lo),decide_eq_false (by omega:¬x.tmod 50>s.Hi),cond_false];have gt:getI M (r:Int)=some t:=by rw [getI_nat];exact ht
   rw [A9 (show gd ((((false:Bool))==false&&true)) (getI M (r:Int)) default=some t from gt),decide_eq_false (by omega:¬s.Lo<t.Lo),cond_false];rw [A9 (show gd ((((false:Bool))==false&&true)) (getI M (r:Int)) default=some t from gt),decide_eq_false (by omega:¬s.Hi>t.Hi),cond_false];have hq:(s.Lo+s.Hi).tdiv 2=(s.Lo+s.Hi)/2:=Int.tdiv_eq_ediv_of_nonneg (by omega);rw [A9 (ckJ (by omega)),A9 (show W6 (s.Lo+s.Hi) 2=some ((s.Lo+s.Hi)/2) by unfold W6;rw [if_neg (by omega),hq,ckJ (by omega)])];rw [Ys hF ha hb hm hlt sk _ (by omega)];exact Uf hF ha hb hc hd hm hv hsub hpw hL hMl hLs hMs G (r+1) (by omega) (by omega)
  ·rw [decide_eq_false (by omega:¬(r:Int)<((L.length:Nat):Int)),cond_false];rfl
theorem Yq {F:Nat} (hF:1000000000000≤F) {p1:List Int} {a b c d:List api_Span} (ha:okW a) (hb:okW b) (hc:okW c) (hd:okW d) (hm:0<p1.length∧p1.length≤10) (hv:∀x∈p1,0≤x∧x≤255) (hsub:∀q,PF a b p1.length (-1) ⟨0,0⟩ q→PF c d p1.length (-1) ⟨0,0⟩ q)
  (hpw:PF a b p1.length (-1) ⟨0,0⟩ (p1.map fun x=>x.tmod 50)):C7 F p1 a b c d=some true:=by
 rcases R4 ha.l hb.l ha.s hb.s ⟨hm.1,by omega⟩ hF (Jt hF ha hb hm) with ⟨L,h1,h2,h3⟩|⟨_,h⟩
 ·rcases R4 hc.l hd.l hc.s hd.s ⟨hm.1,by omega⟩ hF (Jt hF hc hd hm) with ⟨M,k1,k2,k3⟩|⟨_,h⟩
  ·rw [C7,A9 h1,A9 k1];dsimp only;rw [show (((L.length:Nat):Int) != ((p1.length:Nat):Int))=false by rw [h2];simp,show (((M.length:Nat):Int) != ((p1.length:Nat):Int))=false by rw [k2];simp,show ((0:Int) != 0)=false from rfl,cond_false,cond_false,cond_false,cond_false];exact Uf hF ha hb hc hd hm hv hsub hpw h2 k2 h3 k3 F 0 (Nat.zero_le _) (by omega)
  ·exact absurd (hsub _ hpw) (h _)
 ·exact absurd hpw (h _)
end Go.Proofs.Ytbhjgebjojdohaa
namespace Go.Proofs.Ytbhjgebjojdohaa
open Go Go.RowKit Go.Eng
set_option maxRecDepth 10000
set_option linter.unusedVariables false
set_option linter.unusedSimpArgs false
def pwL (p1:List Int):List Int:=p1.map fun x=>x.tmod 50
theorem Hj (p1:List Int):(pwL p1).length=p1.length:=List.length_map _
theorem J2 {p1:List Int} (hv:∀x∈p1,0≤x∧x≤255):∀x∈pwL p1,0≤x∧x≤49:=fun x hx=>by
 obtain ⟨y,hy,rfl⟩:=List.mem_map.1 hx;have:=hv y hy;have h1:=Int.tmod_nonneg 50 this.1;have h2:=Int.tmod_lt_of_pos y (by omega:(0:Int)<50);omega
theorem K3 {n i:Nat}:∀(p:List Int),(∀x∈p,0≤x∧x≤49)→0≤sumAt n i p∧sumAt n i p≤49*(p.length:Int):=by
 have key:∀(p:List Int) (k:Nat),(∀x∈p,0≤x∧x≤49)→0≤Cv (fun r=>if r%n=i then 1 else 0) k p∧Cv (fun r=>if r%n=i then 1 else 0) k p≤49*(p.length:Int):=by
  intro p
  induction p with
  | nil=>intro k _;exact ⟨Int.le_refl _,Int.le_refl _⟩
  | cons x p ih =>
   intro k h;have hx:=h x (List.mem_cons_self ..);have:=ih (k+1) fun y hy=>h y (List.mem_cons_of_mem _ hy);rw [Cv,List.length_cons]
   split
   ·rw [Int.mul_one];omega
   ·rw [Int.mul_zero];omega
 exact fun p h=>key p 0 h
theorem Jd (l:List api_Span) (s:api_Span) (h:l.length≤10000):apd 16 l [s]=some (l++[s]):=by unfold apd;rw [if_pos ⟨by rw [List.length_singleton];omega,by rw [List.length_singleton];omega⟩]
def mk1 (S:Int) (s t:api_Span):Prop:=0≤s.Lo∧s.Lo≤S∧S≤s.Hi∧s.Hi≤10000∧0≤t.Lo∧t.Lo≤s.Lo∧s.Hi≤t.Hi∧t.Hi≤20000
def mkd (n:Nat) (pw:List Int) (l wd:List api_Span):Prop:=∀(i:Nat) (s t:api_Span),l[i]? = some s→wd[i]? = some t→mk1 (sumAt n i pw) s t
theorem Rx {n:Nat} {pw:List Int} {l wd:List api_Span} {x:Nat} (hl:l.length=x) (hw:wd.length=x) (h:mkd n pw l wd) {s t:api_Span} (hs:mk1 (sumAt n x pw) s t):mkd n pw (l++[s]) (wd++[t]):=fun i s2 t2 h1 h2=>by
 by_cases e:i<x
 ·rw [List.getElem?_append_left (by omega)] at h1 h2;exact h i s2 t2 h1 h2
 ·rw [List.getElem?_append_right (by omega)] at h1 h2
  by_cases e2:i=x
  ·subst e2;rw [hl,Nat.sub_self] at h1;rw [hw,Nat.sub_self] at h2;simp at h1 h2;subst h1;subst h2;exact hs
  ·rw [List.getElem?_eq_none (by rw [List.length_singleton];omega)] at h1
   cases h1
theorem A1y {F:Nat} {p0:Int×Int} {p1 p2 p3:List Int} {n:Nat} (hn:0<n∧n≤1000) (hm:p1.length≤10) (hv:∀x∈p1,0≤x∧x≤255):∀(G r:Nat),r≤p1.length→p1.length-r<G→Bj F p0 p1 p2 p3 (n:Int) G (sums n ((pwL p1).take r)) (r:Int)=C4 F p0 p1 p2 p3 (sums n (pwL p1))
 | 0,_,_,h=>by omega
 | G+1,r,hr,hG=>by
  rw [Bj,Ck]
  by_cases hlt:r<p1.length
  ·obtain ⟨x,hx⟩:∃x,p1[r]? = some x:=⟨_,List.getElem?_eq_getElem hlt⟩;have hxv:=hv x (List.mem_of_getElem? hx);have hpx:(pwL p1)[r]? = some (x.tmod 50):=by unfold pwL;rw [List.getElem?_map,hx];rfl
   have hxb:=J2 hv (x.tmod 50) (List.mem_of_getElem? hpx);have hmd:=Nat.mod_lt r hn.1;have ht:((pwL p1).take r).length=r:=by rw [List.length_take,Hj];omega
   have hsb:=K3 (n:=n) (i:=r%n) ((pwL p1).take r) fun y hy=>J2 hv y (List.mem_of_mem_take hy);rw [ht] at hsb;have hset:=Nq (n:=n) (p:=(pwL p1).take r) (x:=x.tmod 50) hn.1;rw [ht] at hset;have htk:(pwL p1).take r++[x.tmod 50]=(pwL p1).take (r+1):=by rw [List.take_add_one,hpx];rfl
   rw [htk] at hset;rw [decide_eq_true (by omega:(r:Int)<((p1.length:Nat):Int)),cond_true,A9 (show getI p1 (r:Int)=some x by rw [getI_nat];exact hx)];rw [A9 (show By (r:Int) (n:Int)=some ((r%n:Nat):Int) by unfold By;rw [if_neg (by omega)];rfl)];rw [A9 (Dn hmd),A9 (ckJ (by omega)),A9 (show By x 50=some (x.tmod 50) by unfold By;rw [if_neg (by omega)]),A9 (ckJ (by omega)),A9 (Dn hmd),A9 hset,A9 (ckS (by omega))];exact A1y hn hm hv G (r+1) (by omega) (by omega)
  ·rw [decide_eq_false (by omega:¬(r:Int)<((p1.length:Nat):Int)),cond_false,List.take_of_length_le (by rw [Hj];omega)]
theorem hi0 {p3:List Int} (h3:∀x∈p3,0≤x∧x≤255) {l wd:List api_Span} {x:Nat} (hx:x≤1000) {k:List api_Span→List api_Span→Int→Option Bool} {S lo:Int} (hS:0≤S∧S≤1000) (hlo:0≤lo∧lo≤S) (hll:l.length=x∧wd.length=x) :
  ∃hi:Int,S≤hi∧hi≤S+20∧B4 p3 l wd (x:Int) k S lo=k (l++[⟨lo,hi⟩]) (wd++[⟨if lo-(x:Int)>0 then lo-(x:Int) else 0,hi+(x:Int)+0⟩]) ((x+1:Nat):Int):=by
 have key:∀hi:Int,S≤hi→hi≤S+20→Bh l wd (x:Int) k lo hi=k (l++[⟨lo,hi⟩]) (wd++[⟨if lo-(x:Int)>0 then lo-(x:Int) else 0,hi+(x:Int)+0⟩]) ((x+1:Nat):Int):=fun hi h1 h2=>by
  rw [Bh,A9 (ckJ (by omega)),A9 (ckJ (by omega)),A9 (ckJ (by omega)),A9 (Jd _ _ (by omega)),A9 (Jd _ _ (by omega)),A9 (ckS (by omega))];rfl
 rw [B4]
 by_cases hp:0<p3.length
 ·obtain ⟨z,hz⟩:=Do (l:=p3) (i:=(((x+0)%p3.length:Nat):Int)) (by have:=Nat.mod_lt (x+0) hp;omega);have hzb:=h3 z (by obtain ⟨j,_,hj⟩:=Bz hz;exact List.mem_of_getElem? hj);have ht:=Int.tmod_nonneg 20 hzb.1;have ht2:=Int.tmod_lt_of_pos z (by omega:(0:Int)<20);rw [decide_eq_true (by omega:((p3.length:Nat):Int)>0),cond_true];rw [A9 (show ck ((x:Int)+0)=some ((x+0:Nat):Int) by rw [ckJ (by omega),Int.natCast_add];rfl)];rw [A9 (show By ((x+0:Nat):Int) ((p3.length:Nat):Int)=some (((x+0)%p3.length:Nat):Int) by unfold By;rw [if_neg (by omega)];rfl),A9 hz,A9 (ckJ (by omega))];rw [A9 (show By z 20=some (z.tmod 20) by unfold By;rw [if_neg (by omega)]),A9 (ckJ (by omega))];exact ⟨_,by omega,by omega,key _ (by omega) (by omega)⟩
 ·rw [decide_eq_false (by omega:¬((p3.length:Nat):Int)>0),cond_false];exact ⟨S,by omega,by omega,key _ (by omega) (by omega)⟩
theorem Zo {F:Nat} {p0:Int×Int} {p1 p2 p3:List Int} (h2:∀x∈p2,0≤x∧x≤255) (h3:∀x∈p3,0≤x∧x≤255) {n:Nat} (hn:0<n∧n≤5) {pw:List Int} (hpl:pw.length≤10) (hpw:∀x∈pw,0≤x∧x≤49):∀(G x:Nat) (l wd:List api_Span),x≤n→n-x<G→l.length=x→wd.length=x→mkd n pw l wd →
  ∃l2 wd2,Ax F p0 p1 p2 p3 (sums n pw) G l wd (x:Int)=Bt F p0 p1 p2 p3 l2 wd2∧l2.length=n∧wd2.length=n∧mkd n pw l2 wd2
 | 0,_,_,_,_,h,_,_,_=>by omega
 | G+1,x,l,wd,hx,hG,hl,hw,hm=>by
  rw [Ax,Cj,Ft]
  by_cases hlt:x<n
  ·have hsb:=K3 (n:=n) (i:=x) pw hpw;have hS:0≤sumAt n x pw∧sumAt n x pw≤1000:=by omega
   have go:∀lo:Int,0≤lo→lo≤sumAt n x pw→∃l2 wd2,B4 p3 l wd (x:Int) (Ax F p0 p1 p2 p3 (sums n pw) G) (sumAt n x pw) lo=Bt F p0 p1 p2 p3 l2 wd2∧l2.length=n∧wd2.length=n∧mkd n pw l2 wd2:=fun lo g1 g2=>by
    obtain ⟨hi,c1,c2,c3⟩:=hi0 h3 (by omega) (k:=Ax F p0 p1 p2 p3 (sums n pw) G) hS ⟨g1,g2⟩ ⟨hl,hw⟩;rw [c3];refine Zo h2 h3 hn hpl hpw G (x+1) _ _ (by omega) (by omega) (by rw [List.length_append,List.length_singleton,hl]) (by rw [List.length_append,List.length_singleton,hw]) (Rx hl hw hm ?_);unfold mk1;dsimp only
    split<;>omega
   rw [decide_eq_true (by omega:(x:Int)<((n:Nat):Int)),cond_true,A9 (Dn hlt)]
   by_cases hp:0<p2.length
   ·obtain ⟨z,hz⟩:=Do (l:=p2) (i:=(((x+0)%p2.length:Nat):Int)) (by have:=Nat.mod_lt (x+0) hp;omega);have hzb:=h2 z (by obtain ⟨j,_,hj⟩:=Bz hz;exact List.mem_of_getElem? hj);have ht:=Int.tmod_nonneg 20 hzb.1;have ht2:=Int.tmod_lt_of_pos z (by omega:(0:Int)<20);rw [decide_eq_true (by omega:((p2.length:Nat):Int)>0),cond_true];rw [A9 (show ck ((x:Int)+0)=some ((x+0:Nat):Int) by rw [ckJ (by omega),Int.natCast_add];rfl)];rw [A9 (show By ((x+0:Nat):Int) ((p2.length:Nat):Int)=some (((x+0)%p2.length:Nat):Int) by unfold By;rw [if_neg (by omega)];rfl),A9 hz,A9 (ckJ (by omega))];rw [A9 (show By z 20=some (z.tmod 20) by unfold By;rw [if_neg (by omega)]),A9 (ckJ (by omega))];exact go _ (by split<;>omega) (by split<;>omega)
   ·rw [decide_eq_false (by omega:¬((p2.length:Nat):Int)>0),cond_false];exact go _ (by omega) (Int.le_refl _)
  ·refine ⟨l,wd,?_,by omega,by omega,hm⟩;rw [decide_eq_false (by omega:¬(x:Int)<((n:Nat):Int)),cond_false]
theorem A1z {F:Nat} {l0 wd0:List api_Span} {p1 p2 p3:List Int} {n:Nat} (hn:0<n∧n≤1000) (hm:p1.length≤10) (hv:∀x∈p1,0≤x∧x≤255):∀(G r:Nat),r≤p1.length→p1.length-r<G→Bi F p1 p2 p3 l0 wd0 (n:Int) G (sums n ((pwL p1).take r)) (r:Int)=C3 F p1 p2 p3 l0 wd0 (sums n (pwL p1))
 | 0,_,_,h=>by omega
 | G+1,r,hr,hG=>by
  rw [Bi,Ci]
  by_cases hlt:r<p1.length
  ·obtain ⟨x,hx⟩:∃x,p1[r]? = some x:=⟨_,List.getElem?_eq_getElem hlt⟩;have hxv:=hv x (List.mem_of_getElem? hx);have hpx:(pwL p1)[r]? = some (x.tmod 50):=by unfold pwL;rw [List.getElem?_map,hx];rfl
   have hxb:=J2 hv (x.tmod 50) (List.mem_of_getElem? hpx);have hmd:=Nat.mod_lt r hn.1;have ht:((pwL p1).take r).length=r:=by rw [List.length_take,Hj];omega
   have hsb:=K3 (n:=n) (i:=r%n) ((pwL p1).take r) fun y hy=>J2 hv y (List.mem_of_mem_take hy);rw [ht] at hsb;have hset:=Nq (n:=n) (p:=(pwL p1).take r) (x:=x.tmod 50) hn.1;rw [ht] at hset;have htk:(pwL p1).take r++[x.tmod 50]=(pwL p1).take (r+1):=by rw [List.take_add_one,hpx];rfl
   rw [htk] at hset;rw [decide_eq_true (by omega:(r:Int)<((p1.length:Nat):Int)),cond_true,A9 (show getI p1 (r:Int)=some x by rw [getI_nat];exact hx)];rw [A9 (show By (r:Int) (n:Int)=some ((r%n:Nat):Int) by unfold By;rw [if_neg (by omega)];rfl)];rw [A9 (Dn hmd),A9 (ckJ (by omega)),A9 (show By x 50=some (x.tmod 50) by unfold By;rw [if_neg (by omega)]),A9 (ckJ (by omega)),A9 (Dn hmd),A9 hset,A9 (ckS (by omega))];exact A1z hn hm hv G (r+1) (by omega) (by omega)
  ·rw [decide_eq_false (by omega:¬(r:Int)<((p1.length:Nat):Int)),cond_false,List.take_of_length_le (by rw [Hj];omega)]
theorem hi1 {p3:List Int} (h3:∀x∈p3,0≤x∧x≤255) {l wd:List api_Span} {x:Nat} (hx:x≤1000) {k:List api_Span→List api_Span→Int→Option Bool} {S lo:Int} (hS:0≤S∧S≤1000) (hlo:0≤lo∧lo≤S) (hll:l.length=x∧wd.length=x) :
  ∃hi:Int,S≤hi∧hi≤S+20∧B3 p3 l wd (x:Int) k S lo=k (l++[⟨lo,hi⟩]) (wd++[⟨if lo-(x:Int)>0 then lo-(x:Int) else 0,hi+(x:Int)+1⟩]) ((x+1:Nat):Int):=by
 have key:∀hi:Int,S≤hi→hi≤S+20→Bg l wd (x:Int) k lo hi=k (l++[⟨lo,hi⟩]) (wd++[⟨if lo-(x:Int)>0 then lo-(x:Int) else 0,hi+(x:Int)+1⟩]) ((x+1:Nat):Int):=fun hi h1 h2=>by
  rw [Bg,A9 (ckJ (by omega)),A9 (ckJ (by omega)),A9 (ckJ (by omega)),A9 (Jd _ _ (by omega)),A9 (Jd _ _ (by omega)),A9 (ckS (by omega))];rfl
 rw [B3]
 by_cases hp:0<p3.length
 ·obtain ⟨z,hz⟩:=Do (l:=p3) (i:=(((x+1)%p3.length:Nat):Int)) (by have:=Nat.mod_lt (x+1) hp;omega);have hzb:=h3 z (by obtain ⟨j,_,hj⟩:=Bz hz;exact List.mem_of_getElem? hj);have ht:=Int.tmod_nonneg 20 hzb.1;have ht2:=Int.tmod_lt_of_pos z (by omega:(0:Int)<20);rw [decide_eq_true (by omega:((p3.length:Nat):Int)>0),cond_true];rw [A9 (show ck ((x:Int)+1)=some ((x+1:Nat):Int) by rw [ckJ (by omega),Int.natCast_add];rfl)];rw [A9 (show By ((x+1:Nat):Int) ((p3.length:Nat):Int)=some (((x+1)%p3.length:Nat):Int) by unfold By;rw [if_neg (by omega)];rfl),A9 hz,A9 (ckJ (by omega))];rw [A9 (show By z 20=some (z.tmod 20) by unfold By;rw [if_neg (by omega)]),A9 (ckJ (by omega))];exact ⟨_,by omega,by omega,key _ (by omega) (by omega)⟩
 ·rw [decide_eq_false (by omega:¬((p3.length:Nat):Int)>0),cond_false];exact ⟨S,by omega,by omega,key _ (by omega) (by omega)⟩
theorem Zp {F:Nat} {l0 wd0:List api_Span} {p1 p2 p3:List Int} (h2:∀x∈p2,0≤x∧x≤255) (h3:∀x∈p3,0≤x∧x≤255) {n:Nat} (hn:0<n∧n≤5) {pw:List Int} (hpl:pw.length≤10) (hpw:∀x∈pw,0≤x∧x≤49):∀(G x:Nat) (l wd:List api_Span),x≤n→n-x<G→l.length=x→wd.length=x→mkd n pw l wd →
  ∃l2 wd2,Aw F p1 p2 p3 l0 wd0 (sums n pw) G l wd (x:Int)=Bf F p1 l0 wd0 l2 wd2∧l2.length=n∧wd2.length=n∧mkd n pw l2 wd2
 | 0,_,_,_,_,h,_,_,_=>by omega
 | G+1,x,l,wd,hx,hG,hl,hw,hm=>by
  rw [Aw,Ch,Ft]
  by_cases hlt:x<n
  ·have hsb:=K3 (n:=n) (i:=x) pw hpw;have hS:0≤sumAt n x pw∧sumAt n x pw≤1000:=by omega
   have go:∀lo:Int,0≤lo→lo≤sumAt n x pw→∃l2 wd2,B3 p3 l wd (x:Int) (Aw F p1 p2 p3 l0 wd0 (sums n pw) G) (sumAt n x pw) lo=Bf F p1 l0 wd0 l2 wd2∧l2.length=n∧wd2.length=n∧mkd n pw l2 wd2:=fun lo g1 g2=>by
    obtain ⟨hi,c1,c2,c3⟩:=hi1 h3 (by omega) (k:=Aw F p1 p2 p3 l0 wd0 (sums n pw) G) hS ⟨g1,g2⟩ ⟨hl,hw⟩;rw [c3];refine Zp h2 h3 hn hpl hpw G (x+1) _ _ (by omega) (by omega) (by rw [List.length_append,List.length_singleton,hl]) (by rw [List.length_append,List.length_singleton,hw]) (Rx hl hw hm ?_);unfold mk1;dsimp only
    split<;>omega
   rw [decide_eq_true (by omega:(x:Int)<((n:Nat):Int)),cond_true,A9 (Dn hlt)]
   by_cases hp:0<p2.length
   ·obtain ⟨z,hz⟩:=Do (l:=p2) (i:=(((x+1)%p2.length:Nat):Int)) (by have:=Nat.mod_lt (x+1) hp;omega);have hzb:=h2 z (by obtain ⟨j,_,hj⟩:=Bz hz;exact List.mem_of_getElem? hj);have ht:=Int.tmod_nonneg 20 hzb.1;have ht2:=Int.tmod_lt_of_pos z (by omega:(0:Int)<20);rw [decide_eq_true (by omega:((p2.length:Nat):Int)>0),cond_true];rw [A9 (show ck ((x:Int)+1)=some ((x+1:Nat):Int) by rw [ckJ (by omega),Int.natCast_add];rfl)];rw [A9 (show By ((x+1:Nat):Int) ((p2.length:Nat):Int)=some (((x+1)%p2.length:Nat):Int) by unfold By;rw [if_neg (by omega)];rfl),A9 hz,A9 (ckJ (by omega))];rw [A9 (show By z 20=some (z.tmod 20) by unfold By;rw [if_neg (by omega)]),A9 (ckJ (by omega))];exact go _ (by split<;>omega) (by split<;>omega)
   ·rw [decide_eq_false (by omega:¬((p2.length:Nat):Int)>0),cond_false];exact go _ (by omega) (Int.le_refl _)
  ·refine ⟨l,wd,?_,by omega,by omega,hm⟩;rw [decide_eq_false (by omega:¬(x:Int)<((n:Nat):Int)),cond_false]
theorem Nx (p0:Int×Int) (h0:(0≤p0.1∧p0.1≤255)∧(0≤p0.2∧p0.2≤255)) (p1:List Int) (h1:∀x∈p1,0≤x∧x≤255) (p2:List Int) (h2:∀x∈p2,0≤x∧x≤255) (p3:List Int) (h3:∀x∈p3,0≤x∧x≤255):Cu 1000000000000 p0 p1 p2 p3=some true:=by
 obtain ⟨F,hF⟩:∃F,F=1000000000000:=⟨_,rfl⟩;rw [←hF];have hF1:1000000000000≤F:=by omega
 rw [Cu]
 by_cases g1:((p1.length:Nat):Int)<1
 ·rw [decide_eq_true g1,cond_true,cond_true];rfl
 rw [decide_eq_false g1,cond_false]
 by_cases g2:((p1.length:Nat):Int)>10
 ·rw [decide_eq_true g2,cond_true];rfl
 rw [decide_eq_false g2,cond_false];have hm:0<p1.length∧p1.length≤10:=by omega
 have a1:=Int.tmod_nonneg 5 h0.1.1;have a2:=Int.tmod_lt_of_pos p0.1 (by omega:(0:Int)<5);have b1:=Int.tmod_nonneg 5 h0.2.1;have b2:=Int.tmod_lt_of_pos p0.2 (by omega:(0:Int)<5);obtain ⟨n0,hn0⟩:∃n:Nat,1+p0.1.tmod 5=(n:Int):=⟨(1+p0.1.tmod 5).toNat,by omega⟩;obtain ⟨n1,hn1⟩:∃n:Nat,1+p0.2.tmod 5=(n:Int):=⟨(1+p0.2.tmod 5).toNat,by omega⟩;rw [A9 (ckJ (by omega)),A9 (show By p0.1 5=some (p0.1.tmod 5) by unfold By;rw [if_neg (by omega)]),A9 (show ck (1+p0.1.tmod 5)=some (n0:Int) by rw [ckJ (by omega),hn0]),A9 (Np n0 (by omega))];refine Eq.trans (A1y (F:=F) (p0:=p0) (p2:=p2) (p3:=p3) (n:=n0) (by omega) hm.2 h1 F 0 (Nat.zero_le _) (by omega)) ?_;obtain ⟨a,c,e1,e2,e3,e4⟩:=Zo (F:=F) (p0:=p0) (p1:=p1) h2 h3 (n:=n0) (by omega) (pw:=pwL p1) (by rw [Hj];exact hm.2) (J2 h1) F 0 [] [] (Nat.zero_le _) (by omega) rfl rfl (fun i s t h=>by simp at h);rw [C4];refine Eq.trans e1 ?_;rw [Bt,A9 (ckJ (by omega)),A9 (show By p0.2 5=some (p0.2.tmod 5) by unfold By;rw [if_neg (by omega)]),A9 (show ck (1+p0.2.tmod 5)=some (n1:Int) by rw [ckJ (by omega),hn1]),A9 (Np n1 (by omega))];refine Eq.trans (A1z (F:=F) (l0:=a) (wd0:=c) (p2:=p2) (p3:=p3) (n:=n1) (by omega) hm.2 h1 F 0 (Nat.zero_le _) (by omega)) ?_;obtain ⟨b,d,f1,f2,f3,f4⟩:=Zp (F:=F) (l0:=a) (wd0:=c) (p1:=p1) h2 h3 (n:=n1) (by omega) (pw:=pwL p1) (by rw [Hj];exact hm.2) (J2 h1) F 0 [] [] (Nat.zero_le _) (by omega) rfl rfl (fun i s t h=>by simp at h);rw [C3];refine Eq.trans f1 ?_;rw [Bf];have okL:∀(n:Nat) (l wd:List api_Span),0<n∧n≤5→l.length=n→wd.length=n→mkd n (pwL p1) l wd→okW l∧okW wd:=fun n l wd hn k1 k2 k3=>by
  refine ⟨⟨by omega,fun s hs=>?_⟩,⟨by omega,fun s hs=>?_⟩⟩
  ·obtain ⟨i,hi⟩:=List.mem_iff_getElem?.1 hs;obtain ⟨t,ht⟩:∃x,wd[i]? = some x:=⟨_,List.getElem?_eq_getElem (by have:=(List.getElem?_eq_some_iff.1 hi).1;omega)⟩;have:=k3 i s t hi ht;unfold mk1 at this;omega
  ·obtain ⟨i,hi⟩:=List.mem_iff_getElem?.1 hs;obtain ⟨t,ht⟩:∃x,l[i]? = some x:=⟨_,List.getElem?_eq_getElem (by have:=(List.getElem?_eq_some_iff.1 hi).1;omega)⟩;have:=k3 i t s ht hi;unfold mk1 at this;omega
 have okA:=okL n0 a c (by omega) e2 e3 e4;have okB:=okL n1 b d (by omega) f2 f3 f4;have wide:∀(n:Nat) (l wd:List api_Span),l.length=n→wd.length=n→mkd n (pwL p1) l wd→∀q,(∀(i:Nat) (s:api_Span),l[i]? = some s→s.Lo≤sumAt l.length i q∧sumAt l.length i q≤s.Hi)→∀(i:Nat) (s:api_Span),wd[i]? = some s→s.Lo≤sumAt wd.length i q∧sumAt wd.length i q≤s.Hi:=fun n l wd k1 k2 k3 q hq i t ht=>by
  obtain ⟨s,hs⟩:∃x,l[i]? = some x:=⟨_,List.getElem?_eq_getElem (by have:=(List.getElem?_eq_some_iff.1 ht).1;omega)⟩;have g1:=hq i s hs;have g2:=k3 i s t hs ht;rw [k1] at g1;rw [k2];unfold mk1 at g2;omega
 refine Yq hF1 okA.1 okB.1 okA.2 okB.2 hm h1 (fun q hq=>⟨hq.len,hq.gb,wide n0 a c e2 e3 e4 q hq.sa,wide n1 b d f2 f3 f4 q hq.sb⟩) ⟨by rw [List.length_map],fun r x hx=>?_,fun i s hs=>?_,fun i s hs=>?_⟩
 ·rw [Dz];have:=J2 h1 x (List.mem_of_getElem? hx);exact ⟨this.1,by dsimp only;omega⟩
 ·obtain ⟨t,ht⟩:∃x,c[i]? = some x:=⟨_,List.getElem?_eq_getElem (by have:=(List.getElem?_eq_some_iff.1 hs).1;omega)⟩;have:=e4 i s t hs ht;rw [e2];exact ⟨this.2.1,this.2.2.1⟩
 ·obtain ⟨t,ht⟩:∃x,d[i]? = some x:=⟨_,List.getElem?_eq_getElem (by have:=(List.getElem?_eq_some_iff.1 hs).1;omega)⟩;have:=f4 i s t hs ht;rw [f2];exact ⟨this.2.1,this.2.2.1⟩
end Go.Proofs.Ytbhjgebjojdohaa
