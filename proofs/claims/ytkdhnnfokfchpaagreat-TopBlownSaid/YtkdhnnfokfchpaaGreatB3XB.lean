import Derived.Test.YtkdhnnfokfchpaaGreatB3XG
set_option linter.unusedVariables false
set_option linter.unusedSimpArgs false
set_option linter.unusedSectionVars false
namespace Go.Proofs.YtkdhnnfokfchpaaGreat
open Go Go.RowKit Go.Eng
set_option maxRecDepth 10000
set_option linter.unusedVariables false
set_option linter.unusedSimpArgs false
def crB (x y:wind_border):Int:=x.a*y.b-x.b*y.a
def d3B (x y z:wind_border):Int:=z.c*(x.a*y.b-x.b*y.a)-z.a*(x.c*y.b-x.b*y.c)-z.b*(x.a*y.c-x.c*y.a)
def X9:wind_border:=⟨0,0,1⟩
theorem M5 (x y:wind_border):d3B x y X9=crB x y:=by unfold d3B crB X9;grind
theorem Pp (x y z:wind_border):d3B x y z=d3B y z x:=by unfold d3B;grind
theorem Mj (x y z:wind_border):d3B x y z=-d3B y x z:=by unfold d3B;grind
theorem A3z (x y:wind_border):d3B x x y=0:=by unfold d3B;grind
theorem A6x (y w z h m:wind_border):d3B y w z*d3B y h m-d3B y w h*d3B y z m+d3B y w m*d3B y z h=0:=by unfold d3B;grind
theorem A11 (x y z w:wind_border):crB x z*crB y w=crB x y*crB z w+crB y z*crB x w:=by unfold crB;grind
def Cor (A:List wind_border) (x y:wind_border):Prop:=0<crB x y/\∀m∈A,0<=d3B x y m
theorem A1m (a b:Int) (h:a<0) (h2:a*b<=0):0<=b:=by
 rcases Int.lt_or_le b 0 with h3|h3
 ·have:=Int.mul_pos_of_neg_of_neg h h3;omega
 ·exact h3
theorem Yt (a b:Int) (h:a<0) (h2:a*b<0):0<b:=by
 rcases Int.lt_or_le 0 b with h3|h3
 ·exact h3
 ·have:=Int.mul_nonneg_of_nonpos_of_nonpos (Int.le_of_lt h) h3;omega
theorem Ss {a b:Int} (h:a<=0) (k:0<=b):a*b<=0:=Int.mul_nonpos_of_nonpos_of_nonneg h k
theorem A3w {A:List wind_border} {w y z h:wind_border} (h1:Cor A w y) (h2:Cor A y z) (hz:z∈A) (hi:0<=d3B w y h) (ho:d3B y z h<0):Cor (h::A) y h:=by
 have e0:d3B y w z=-d3B w y z:=Mj ..;have e1:d3B y w h=-d3B w y h:=Mj ..;have f0:=h1.2 z hz;have key:∀m,0<=d3B w y m->0<=d3B y z m->d3B y w z*d3B y h m<=0:=by
  intro m hm hm2;have p:=A6x y w z h m;have e2:d3B y w m=-d3B w y m:=Mj ..;have q1:=Ss (show d3B y w h<=0 by omega) hm2;have q2:=Int.mul_nonneg_of_nonpos_of_nonpos (show d3B y w m<=0 by omega) (Int.le_of_lt ho);omega
 have e3:d3B y w X9=-d3B w y X9:=Mj ..;rw [M5,M5] at e3;have p:=A6x y w z h X9;rw [M5,M5,M5] at p;have q1:=Ss (show d3B y w h<=0 by omega) (Int.le_of_lt h2.1);have q2:=Int.mul_pos_of_neg_of_neg (show crB y w<0 by have:=h1.1;omega) ho;have n0:d3B y w z<0:=by
  rcases Int.lt_or_le (d3B y w z) 0 with h9|h9
  ·exact h9
  ·have e:d3B y w z=0:=by omega
   rw [e,Int.zero_mul] at p;omega
 refine ⟨Yt _ _ n0 (by omega),λm hm=>?_⟩;rcases List.mem_cons.1 hm with rfl|hm
 ·rw [Pp,A3z];omega
 ·exact A1m _ _ n0 (key m (h1.2 m hm) (h2.2 m hm))
theorem Us {A:List wind_border} {w y z h:wind_border} (h1:Cor A w y) (h2:Cor A y z) (hw:w∈A) (ho:d3B w y h<0) (hi:0<=d3B y z h):Cor (h::A) h y:=by
 have e0:d3B y w z=-d3B w y z:=Mj ..;have e1:d3B y w h=-d3B w y h:=Mj ..;have f0:0<=d3B w y z:=by rw [Pp];exact h2.2 w hw
 have key:∀m,0<=d3B w y m->0<=d3B y z m->d3B y w z*d3B y m h<=0:=by
  intro m hm hm2;have p:=A6x y w z m h;have e2:d3B y w m=-d3B w y m:=Mj ..;have q1:=Int.mul_nonneg (show 0<=d3B y w h by omega) hm2;have q2:=Ss (show d3B y w m<=0 by omega) hi;omega
 have e3:d3B y w X9=-d3B w y X9:=Mj ..;rw [M5,M5] at e3;have p:=A6x y w z X9 h;have e4:d3B y X9 h=crB h y:=by rw [Pp,Pp,M5]
 rw [M5,M5,e4] at p;have q1:=Int.mul_pos (show 0<d3B y w h by omega) h2.1;have q2:=Ss (show crB y w<=0 by have:=h1.1;omega) hi;have n0:d3B y w z<0:=by
  rcases Int.lt_or_le (d3B y w z) 0 with h9|h9
  ·exact h9
  ·have e:d3B y w z=0:=by omega
   rw [e,Int.zero_mul] at p;omega
 refine ⟨Yt _ _ n0 (by omega),λm hm=>?_⟩;rcases List.mem_cons.1 hm with rfl|hm
 ·rw [Pp,Pp,A3z];omega
 ·rw [Pp];exact A1m _ _ n0 (key m (h1.2 m hm) (h2.2 m hm))
def ChB (R:wind_border->wind_border->Prop):wind_border->List wind_border->Prop
 | _,[]=>True
 | x,y::l=>R x y/\ChB R y l
def Cyc (R:wind_border->wind_border->Prop):List wind_border->Prop
 | []=>True
 | x::l=>ChB R x (l++[x])
theorem ChB.mono {R S:wind_border->wind_border->Prop}:∀(l:List wind_border) (x:wind_border),(∀x y,R x y->S x y)->ChB R x l->ChB S x l
 | [],_,_,_=>trivial
 | y::l,x,h,k=>⟨h _ _ k.1,ChB.mono l y h k.2⟩
theorem Xv (w:wind_border):∀(l:List wind_border) (x:wind_border),ChB (λx y=>0<crB x y) x l->0<crB x w->(∀y∈l,0<crB y w)->∀y∈l,0<crB x y
 | [],x,_,_,_,y,hy=>by simp at hy
 | z::l,x,h,hx,hl,y,hy=>by
  have hz:=hl z (List.mem_cons_self ..);rcases List.mem_cons.1 hy with rfl|hy
  ·exact h.1
  ·have ih:=Xv w l z h.2 hz (λy hy=>hl y (List.mem_cons_of_mem _ hy)) y hy;have p:=A11 x z y w;have q1:=Int.mul_pos h.1 (hl y (List.mem_cons_of_mem _ hy));have q2:=Int.mul_pos ih hx;rcases Int.lt_or_le 0 (crB x y) with h3|h3
   ·exact h3
   ·have:=Ss h3 (Int.le_of_lt hz);omega
theorem W5 (w:wind_border):∀(l:List wind_border) (x:wind_border),ChB (λx y=>0<crB x y) x l->crB x w<0->(∀y∈l,crB y w<0)->∀y∈l,0<crB x y
 | [],x,_,_,_,y,hy=>by simp at hy
 | z::l,x,h,hx,hl,y,hy=>by
  have hz:=hl z (List.mem_cons_self ..);rcases List.mem_cons.1 hy with rfl|hy
  ·exact h.1
  ·have ih:=W5 w l z h.2 hz (λy hy=>hl y (List.mem_cons_of_mem _ hy)) y hy;have p:=A11 x z y w;have q1:=Int.mul_neg_of_pos_of_neg h.1 (hl y (List.mem_cons_of_mem _ hy));have q2:=Int.mul_neg_of_pos_of_neg ih hx;rcases Int.lt_or_le 0 (crB x y) with h3|h3
   ·exact h3
   ·have:=Int.mul_nonneg_of_nonpos_of_nonpos h3 (Int.le_of_lt hz);omega
theorem Nt (w:wind_border) {R:wind_border->wind_border->Prop}:∀(l:List wind_border) (x z:wind_border),ChB R x (l++[z])->0<=crB x w->crB z w<=0->∃p q,R p q/\0<=crB p w/\crB q w<=0
 | [],x,z,h,hx,hz=>⟨x,z,h.1,hx,hz⟩
 | y::l,x,z,h,hx,hz=>by
  rcases Int.lt_or_le 0 (crB y w) with h3|h3
  ·exact Nt w l y z h.2 (Int.le_of_lt h3) hz
  ·exact ⟨x,y,h.1,hx,h3⟩
theorem X0 {R:wind_border->wind_border->Prop} (hR:∀x y,R x y->0<crB x y) (w:wind_border):∀l,l≠[]->Cyc R l->∃p q,R p q/\0<=crB p w/\crB q w<=0:=by
 intro l hl h
 match l,hl with
 | x::l,_ =>
  have h:ChB R x (l++[x]):=h;have hc:ChB (λx y=>0<crB x y) x (l++[x]):=ChB.mono _ _ hR h;have hx:crB x x=0:=by unfold crB;grind
  rcases Int.lt_trichotomy (crB x w) 0 with h1|h1|h1
  ·
   by_cases hm:∀y∈l,crB y w<0
   ·have:=W5 w (l++[x]) x hc h1 (λy hy=>by
     rcases List.mem_append.1 hy with hy|hy
     ·exact hm y hy
     ·simp at hy;subst hy;exact h1) x (by simp)
    omega
   ·obtain ⟨y,hy,hyw⟩:∃y,y∈l/\0<=crB y w:=by
     apply Classical.byContradiction;intro hn;exact hm λy hy=>by
      rcases Int.lt_or_le (crB y w) 0 with h3|h3
      ·exact h3
      ·exact absurd ⟨y,hy,h3⟩ hn
    obtain ⟨u,v,rfl⟩:=List.append_of_mem hy;have h2:ChB R y (v++[x]):=by
     have:∀(u:List wind_border) (x0:wind_border),ChB R x0 (u++y::(v++[x]))->ChB R y (v++[x]):=by
      intro u
      induction u with
      | nil=>intro x0 h;exact h.2
      | cons z u ih=>intro x0 h;exact ih z h.2
     exact this u x (by simpa using h)
    exact Nt w v y x h2 hyw (Int.le_of_lt h1)
  ·match l,h with
   | [],h=>exact ⟨x,x,h.1,by omega,by omega⟩
   | y::l,h =>
    exact Nt w (y::l) x x h (by omega) (by omega)
  ·by_cases hm:∀y∈l,0<crB y w
   ·have:=Xv w (l++[x]) x hc h1 (λy hy=>by
     rcases List.mem_append.1 hy with hy|hy
     ·exact hm y hy
     ·simp at hy;subst hy;exact h1) x (by simp)
    omega
   ·obtain ⟨y,hy,hyw⟩:∃y,y∈l/\crB y w<=0:=by
     apply Classical.byContradiction;intro hn;exact hm λy hy=>by
      rcases Int.lt_or_le 0 (crB y w) with h3|h3
      ·exact h3
      ·exact absurd ⟨y,hy,h3⟩ hn
    obtain ⟨u,v,rfl⟩:=List.append_of_mem hy;have h2:ChB R x (u++[y]):=by
     have:∀(u:List wind_border) (x0:wind_border),ChB R x0 (u++y::(v++[x]))->ChB R x0 (u++[y]):=by
      intro u
      induction u with
      | nil=>intro x0 h;exact ⟨h.1,trivial⟩
      | cons z u ih=>intro x0 h;exact ⟨h.1,ih z h.2⟩
     exact this u x (by simpa using h)
    exact Nt w u x y h2 (Int.le_of_lt h1) hyw
def satB (U V:Int) (h:wind_border):Prop:=h.a*U+h.b*V<=16*h.c
theorem Y8 {U V:Int} {p q:wind_border} (w:wind_border) (hp:satB U V p) (hq:satB U V q) (h1:0<=crB p w) (h2:crB q w<=0) :
  crB p q*(w.a*U+w.b*V)<=16*(w.a*(p.c*q.b-p.b*q.c)+w.b*(p.a*q.c-p.c*q.a)):=by
 unfold satB at hp hq;have a1:=Int.mul_le_mul_of_nonneg_left hq h1;have a2:=Int.mul_le_mul_of_nonneg_left hp (show 0<=-crB q w by omega);have e:crB p q*(w.a*U+w.b*V)=crB p w*(q.a*U+q.b*V) + -crB q w*(p.a*U+p.b*V):=by unfold crB;grind
 have e2:16*(w.a*(p.c*q.b-p.b*q.c)+w.b*(p.a*q.c-p.c*q.a))=crB p w*(16*q.c) + -crB q w*(16*p.c):=by unfold crB;grind
 omega
def Gv (h x y:wind_border):Bool:=decide (d3B x y h<0)
def emB (h:wind_border) (b e:Bool) (x:wind_border):List wind_border:=(bif !b||!e then [x] else [])++(bif !b&&e then [h] else [])
def L9:wind_border->List wind_border->wind_border
 | x,[]=>x
 | _,y::l=>L9 y l
theorem Sr:∀(l r:List wind_border) (x y:wind_border),L9 x (l++y::r)=L9 y r
 | [],_,_,_=>rfl
 | z::l,r,_,y=>Sr l r z y
theorem Yi:∀(l:List wind_border) (x:wind_border),L9 x l∈x::l
 | [],_=>List.mem_cons_self ..
 | y::l,_=>List.mem_cons_of_mem _ (Yi l y)
def goB (h:wind_border):Bool->wind_border->List wind_border->List wind_border
 | _,_,[]=>[]
 | b,x,y::l=>emB h b (Gv h x y) x++goB h (Gv h x y) y l
theorem ChB.snoc {R:wind_border->wind_border->Prop}:∀(l:List wind_border) (x y z:wind_border),ChB R x (l++[y,z])↔ChB R x (l++[y])/\R y z
 | [],x,y,z=>by simp [ChB]
 | a::l,x,y,z=>by
  have:=ChB.snoc (R:=R) l a y z;simp only [List.cons_append,ChB,this,and_assoc]
theorem Cyc.rot1 {R:wind_border->wind_border->Prop} (x:wind_border) (l:List wind_border) (h:Cyc R (x::l)):Cyc R (l++[x]):=by
 match l,h with
 | [],h=>exact h
 | y::l,h =>
  have h:R x y/\ChB R y (l++[x]):=h;show ChB R y ((l++[x])++[y]);rw [List.append_assoc];exact (ChB.snoc l y x y).2 ⟨h.2,h.1⟩
theorem Cyc.rot {R:wind_border->wind_border->Prop}:∀(u v:List wind_border),Cyc R (u++v)->Cyc R (v++u)
 | [],v,h=>by simpa using h
 | x::u,v,h=>by
  have:=Cyc.rot u (v++[x]) (by have:=Cyc.rot1 x (u++v) h;simpa using this)
  simpa using this
theorem A2d {A:List wind_border} {h s:wind_border} (hs:s∈A):∀(l:List wind_border) (x w z:wind_border) (b:Bool),(∀y∈x::l,y∈A)->w∈A->b=Gv h w x->(b=false->z=w)->(b=true->z=h)->Cor A w x->ChB (Cor A) x (l++[s])->Gv h (L9 x l) s=false ->
  ChB (Cor (h::A)) z (goB h b x (l++[s])++[s]):=by
 have keep:∀{x y:wind_border},Cor A x y->Gv h x y=false->Cor (h::A) x y:=by
  intro x y hc ho;refine ⟨hc.1,λm hm=>?_⟩;rcases List.mem_cons.1 hm with rfl|hm
  ·exact Int.not_lt.1 (of_decide_eq_false ho)
  ·exact hc.2 m hm
 intro l
 induction l with
 | nil =>
  intro x w z b hA hw hb hz1 hz2 hc hch hl;have hxs:Cor A x s:=hch.1;have he:Gv h x s=false:=hl;show ChB _ z (goB h b x [s]++[s]);unfold goB goB emB;rw [he]
  cases b with
  | false=>rw [hz1 rfl];exact ⟨keep hc hb.symm,keep hxs he,trivial⟩
  | true=>rw [hz2 rfl];exact ⟨Us hc hxs hw (of_decide_eq_true hb.symm) (Int.not_lt.1 (of_decide_eq_false he)),keep hxs he,trivial⟩
 | cons y l ih =>
  intro x w z b hA hw hb hz1 hz2 hc hch hl;have hxy:Cor A x y:=hch.1;have hx:x∈A:=hA x (by simp);have hy:y∈A:=hA y (by simp);have ih':=λz h1 h2=>ih y x z (Gv h x y) (λq hq=>hA q (List.mem_cons_of_mem _ hq)) hx rfl h1 h2 hxy hch.2 hl;show ChB _ z (emB h b (Gv h x y) x++goB h (Gv h x y) y (l++[s])++[s]);unfold emB
  cases he:Gv h x y with
  | false =>
   rw [he] at ih';have ih2:=ih' x (λ_=>rfl) (by simp)
   cases b with
   | false=>rw [hz1 rfl];exact ⟨keep hc hb.symm,ih2⟩
   | true=>rw [hz2 rfl];exact ⟨Us hc hxy hw (of_decide_eq_true hb.symm) (Int.not_lt.1 (of_decide_eq_false he)),ih2⟩
  | true =>
   rw [he] at ih';have ih2:=ih' h (by simp) (λ_=>rfl)
   cases b with
   | false=>rw [hz1 rfl];exact ⟨keep hc hb.symm,A3w hc hxy hy (Int.not_lt.1 (of_decide_eq_false hb.symm)) (of_decide_eq_true he),ih2⟩
   | true=>rw [hz2 rfl];exact ih2
theorem X7 {h:wind_border}:∀(l r:List wind_border) (x y:wind_border) (b:Bool),goB h b x (l++y::r)=goB h b x (l++[y])++goB h (Gv h (L9 x l) y) y r
 | [],r,x,y,b=>by simp [goB,L9]
 | z::l,r,x,y,b=>by
  have:=X7 (h:=h) l r z y (Gv h x z);simp only [List.cons_append,goB,this,List.append_assoc];rfl
def Wz (h:wind_border):List wind_border->List wind_border
 | []=>[]
 | x::l=>goB h (Gv h (L9 x l) x) x (l++[x])
theorem X8 {h:wind_border}:∀(l:List wind_border) (x q:wind_border) (b:Bool),q∈goB h b x l->q=h\/q=x\/q∈l
 | [],x,q,b,hq=>by simp [goB] at hq
 | y::l,x,q,b,hq=>by
  unfold goB emB at hq;rcases List.mem_append.1 hq with hq|hq
  ·rcases List.mem_append.1 hq with hq|hq
   ·cases hh:(!b||!(Gv h x y))<;>rw [hh] at hq<;>simp at hq
    exact .inr (.inl hq)
   ·cases hh:(!b&&(Gv h x y))<;>rw [hh] at hq<;>simp at hq
    exact .inl hq
  ·rcases X8 l y q _ hq with h1|h1|h1
   ·exact .inl h1
   ·subst h1;exact .inr (.inr (List.mem_cons_self ..))
   ·exact .inr (.inr (List.mem_cons_of_mem _ h1))
theorem N0 {h:wind_border} (x y:wind_border) (l:List wind_border):∃r,goB h false x (y::l)=x::r:=by
 unfold goB emB;exact ⟨_,rfl⟩
theorem A12 {A:List wind_border} {h x:wind_border} {l:List wind_border} (hA:∀y∈x::l,y∈A) (hc:Cyc (Cor A) (x::l)) (ho:Gv h (L9 x l) x=false):Cyc (Cor (h::A)) (Wz h (x::l)):=by
 have hc:ChB (Cor A) x (l++[x]):=hc;have hlast:L9 x l∈x::l:=Yi l x;have hcl:Cor A (L9 x l) x:=by
  rcases List.eq_nil_or_concat l with rfl|⟨m,y,rfl⟩
  ·exact hc.1
  ·rw [List.concat_eq_append] at hc ⊢;rw [List.append_assoc] at hc;rw [Sr];exact ((ChB.snoc m x y x).1 hc).2
 have key:=A2d (h:=h) (hA x (by simp)) l x _ _ false hA (hA _ hlast) ho.symm (λ_=>rfl) (by simp) hcl hc ho;show Cyc _ (goB h (Gv h (L9 x l) x) x (l++[x]));rw [ho]
 match l,key with
 | [],key =>
  obtain ⟨r,hr⟩:=N0 (h:=h) x x [];rw [List.nil_append,hr] at key ⊢;exact key.2
 | y::l,key =>
  obtain ⟨r,hr⟩:=N0 (h:=h) x y (l++[x]);rw [List.cons_append,hr] at key ⊢;exact key.2
theorem A69 {A:List wind_border} {h:wind_border} {l:List wind_border} (hA:∀y∈l,y∈A) (hc:Cyc (Cor A) l) {p q:wind_border} {u v:List wind_border} (hl:l=u++q::v) (hp:(∃x u',u=x::u'/\L9 x u'=p)\/u=[]/\L9 q v=p) (ho:Gv h p q=false):Cyc (Cor (h::A)) (Wz h l)/\Wz h l≠[]:=by
 subst hl;rcases hp with ⟨x,u',rfl,hlast⟩|⟨rfl,hlast⟩
 ·have h1:Cyc (Cor A) (q::(v++x::u')):=by
   have:=Cyc.rot (x::u') (q::v) hc
   simpa using this
  have e0:L9 q (v++x::u')=p:=by rw [Sr,hlast]
  have h2:=A12 (h:=h) (λy hy=>hA y (by
   rcases List.mem_cons.1 hy with rfl|hy
   ·simp
   ·rcases List.mem_append.1 hy with hy|hy
    ·exact List.mem_append_right _ (List.mem_cons_of_mem _ hy)
    ·exact List.mem_append_left _ hy)) h1 (by rw [e0];exact ho)
  have e1:Wz h (q::(v++x::u'))=goB h false q (v++[x])++goB h (Gv h (L9 q v) x) x (u'++[q]):=by
   show goB h (Gv h (L9 q (v++x::u')) q) q ((v++x::u')++[q])=_;rw [e0,ho,List.append_assoc,List.cons_append];exact X7 v (u'++[q]) q x false
  have e2:Wz h (x::u'++q::v)=goB h (Gv h (L9 q v) x) x (u'++[q])++goB h false q (v++[x]):=by
   show goB h (Gv h (L9 x (u'++q::v)) x) x ((u'++q::v)++[x])=_;rw [Sr,List.append_assoc,List.cons_append,X7,hlast,ho]
  rw [e2];rw [e1] at h2;refine ⟨Cyc.rot _ _ h2,?_⟩;obtain ⟨r,hr⟩:∃r,goB h false q (v++[x])=q::r:=by
   match v with
   | []=>exact N0 q x []
   | y::v=>exact N0 q y (v++[x])
  rw [hr];simp
 ·refine ⟨A12 hA hc (by rw [hlast];exact ho),?_⟩;show goB h (Gv h (L9 q v) q) q (v++[q])≠[];rw [hlast,ho]
  match v with
  | []=>obtain ⟨r,hr⟩:=N0 (h:=h) q q [];rw [List.nil_append,hr];simp
  | y::v=>obtain ⟨r,hr⟩:=N0 (h:=h) q y (v++[q]);rw [List.cons_append,hr];simp
def bdB (l:List wind_border) (i:Nat):wind_border:=l.getD i default
def Adj (l:List wind_border) (p q:wind_border):Prop:=∃i,i<l.length/\bdB l i=p/\bdB l ((i+1)%l.length)=q
theorem Nr {l:List wind_border} {i:Nat} (h:i<l.length):bdB l i∈l:=by
 unfold bdB;rw [List.getD_eq_getElem?_getD,List.getElem?_eq_getElem h];exact List.getElem_mem _
theorem A0x {R:wind_border->wind_border->Prop}:∀(m:List wind_border) (x:wind_border),ChB R x m↔∀i,i<m.length->R (bdB (x::m) i) (bdB m i)
 | [],x=>by simp [ChB]
 | y::m,x=>by
  have ih:=A0x (R:=R) m y;constructor
  ·rintro ⟨h1,h2⟩ i hi
   match i with
   | 0=>exact h1
   | i+1=>exact ih.1 h2 i (by simpa using hi)
  ·intro h;exact ⟨h 0 (by simp),ih.2 λi hi=>h (i+1) (by simpa using hi)⟩
theorem Xt {l m:List wind_border} {i:Nat} (h:i<l.length):bdB (l++m) i=bdB l i:=by
 unfold bdB;rw [List.getD_eq_getElem?_getD,List.getD_eq_getElem?_getD,List.getElem?_append_left h]
theorem Mi {R:wind_border->wind_border->Prop} (l:List wind_border):Cyc R l↔∀i,i<l.length->R (bdB l i) (bdB l ((i+1)%l.length)):=by
 match l with
 | []=>simp [Cyc]
 | x::m =>
  have h0:=A0x (R:=R) (m++[x]) x;have e1:∀i,i<m.length+1->bdB (x::(m++[x])) i=bdB (x::m) i:=λi hi=>Xt (l:=x::m) (m:=[x]) (by simpa using hi);have e2:∀i,i<m.length+1->bdB (m++[x]) i=bdB (x::m) ((i+1)%(m.length+1)):=by
   intro i hi;rcases Nat.lt_or_ge i m.length with h|h
   ·rw [Xt h,Nat.mod_eq_of_lt (by omega)];rfl
   ·obtain rfl:i=m.length:=by omega
    rw [Nat.mod_self];unfold bdB;simp
  show ChB R x (m++[x])↔_;rw [h0];simp only [List.length_append,List.length_cons,List.length_nil];constructor
  ·intro h i hi;have:=h i hi
   rwa [e1 i hi,e2 i hi] at this
  ·intro h i hi;rw [e1 i hi,e2 i hi];exact h i hi
theorem A3y {R:wind_border->wind_border->Prop} {l:List wind_border} (h:Cyc R l):Cyc (λp q=>R p q/\Adj l p q) l :=
 (Mi l).2 λi hi=>⟨(Mi l).1 h i hi,i,hi,rfl,rfl⟩
theorem Um:∀(l:List wind_border) (x:wind_border),L9 x l=bdB (x::l) l.length
 | [],_=>rfl
 | y::l,_=>Um l y
theorem A65 {l:List wind_border} {p q:wind_border} (h:Adj l p q):∃u v,l=u++q::v/\((∃x u',u=x::u'/\L9 x u'=p)\/u=[]/\L9 q v=p):=by
 obtain ⟨i,hi,rfl,rfl⟩:=h;rcases Nat.lt_or_ge (i+1) l.length with h1|h1
 ·rw [Nat.mod_eq_of_lt h1];have e:l.drop (i+1)=bdB l (i+1)::l.drop (i+2):=by
   rw [List.drop_eq_getElem_cons h1];unfold bdB;rw [List.getD_eq_getElem?_getD,List.getElem?_eq_getElem h1];rfl
  refine ⟨l.take (i+1),l.drop (i+2),by rw [←e,List.take_append_drop],.inl ?_⟩
  match l,hi,h1 with
  | x::m,hi,h1 =>
   refine ⟨x,m.take i,rfl,?_⟩;have hm:i<m.length:=by simpa using h1
   rw [Um];show bdB (x::m.take i) (m.take i).length=_;rw [List.length_take,Nat.min_eq_left (by omega)];unfold bdB;rw [List.getD_eq_getElem?_getD,List.getD_eq_getElem?_getD,show x::m.take i=(x::m).take (i+1) from rfl,List.getElem?_take,if_pos (by omega)]
 ·have hl:l.length=i+1:=by omega
  match l,hl with
  | x::m,hl =>
   have hl:m.length=i:=by simpa using hl
   subst hl;refine ⟨[],m,?_,.inr ⟨rfl,?_⟩⟩
   ·rw [List.length_cons,Nat.mod_self];rfl
   ·rw [List.length_cons,Nat.mod_self];exact Um m x
structure AreaB (U V:Int) (A l:List wind_border):Prop where
 ne:l≠[]
 cyc:Cyc (Cor A) l
 sub:∀y∈l,y∈A
 sat:∀y∈A,satB U V y
section
variable {U V:Int} {A l:List wind_border} {h w:wind_border}
theorem AreaB.far (H:AreaB U V A l) (w:wind_border):∃p q,Adj l p q/\Cor A p q/\crB p q*(w.a*U+w.b*V)<=16*(w.a*(p.c*q.b-p.b*q.c)+w.b*(p.a*q.c-p.c*q.a)):=by
 obtain ⟨p,q,⟨h1,h2⟩,h3,h4⟩:=X0 (R:=λp q=>Cor A p q/\Adj l p q) (λ_ _ h=>h.1.1) w l H.ne (A3y H.cyc);have hp:p∈l:=by obtain ⟨i,hi,rfl,_⟩:=h2;exact Nr hi
 have hq:q∈l:=by obtain ⟨i,hi,_,rfl⟩:=h2;exact Nr (Nat.mod_lt _ (by omega))
 exact ⟨p,q,h2,h1,Y8 w (H.sat p (H.sub p hp)) (H.sat q (H.sub q hq)) h3 h4⟩
theorem AreaB.some_in (H:AreaB U V A l) (hs:satB U V h):∃p q,Adj l p q/\Gv h p q=false:=by
 obtain ⟨p,q,h1,h2,h3⟩:=H.far ⟨-h.a,-h.b,0⟩;refine ⟨p,q,h1,decide_eq_false ?_⟩;have h4:=Int.mul_le_mul_of_nonneg_left hs (Int.le_of_lt h2.1);have e:16*d3B p q h=crB p q*(16*h.c)+16*(-h.a*(p.c*q.b-p.b*q.c) + -h.b*(p.a*q.c-p.c*q.a)):=by unfold d3B crB;grind
 have e2:crB p q*(-h.a*U + -h.b*V)=-(crB p q*(h.a*U+h.b*V)):=by grind
 simp only at h3;omega
def A1k (l:List wind_border) (h:wind_border):Bool:=(List.range l.length).any λi=>Gv h (bdB l i) (bdB l ((i+1)%l.length))
def P5 (l:List wind_border) (h:wind_border):List wind_border:=if h∈l then l else if A1k l h=false then l else Wz h l
theorem AreaB.cut (H:AreaB U V A l) (hs:satB U V h):AreaB U V (h::A) (P5 l h):=by
 have hS:∀y∈h::A,satB U V y:=by
  intro y hy;rcases List.mem_cons.1 hy with rfl|hy
  ·exact hs
  ·exact H.sat y hy
 unfold P5
 by_cases h1:h∈l
 ·rw [if_pos h1];refine ⟨H.ne,(Mi l).2 λi hi=>?_,λy hy=>List.mem_cons_of_mem _ (H.sub y hy),hS⟩;have hc:=(Mi l).1 H.cyc i hi;refine ⟨hc.1,λm hm=>?_⟩;rcases List.mem_cons.1 hm with rfl|hm
  ·exact hc.2 _ (H.sub _ h1)
  ·exact hc.2 m hm
 ·rw [if_neg h1]
  by_cases h2:A1k l h=false
  ·rw [if_pos h2];refine ⟨H.ne,(Mi l).2 λi hi=>?_,λy hy=>List.mem_cons_of_mem _ (H.sub y hy),hS⟩;have hc:=(Mi l).1 H.cyc i hi;have ho:=List.any_eq_false.1 h2 i (List.mem_range.2 hi);refine ⟨hc.1,λm hm=>?_⟩;rcases List.mem_cons.1 hm with rfl|hm
   ·simp [Gv] at ho;exact ho
   ·exact hc.2 m hm
  ·rw [if_neg h2];obtain ⟨p,q,a1,a2⟩:=H.some_in hs;obtain ⟨u,v,e,hp⟩:=A65 a1;obtain ⟨c1,c2⟩:=A69 H.sub H.cyc e hp a2;refine ⟨c2,c1,λy hy=>?_,hS⟩
   match l,hy with
   | x::m,hy =>
    rcases X8 (m++[x]) x y _ hy with rfl|rfl|hy
    ·exact List.mem_cons_self ..
    ·exact List.mem_cons_of_mem _ (H.sub _ (List.mem_cons_self ..))
    ·refine List.mem_cons_of_mem _ (H.sub y ?_);rcases List.mem_append.1 hy with hy|hy
     ·exact List.mem_cons_of_mem _ hy
     ·simp at hy;subst hy;exact List.mem_cons_self ..
   | [],hy=>simp [Wz] at hy
theorem A2y {l:List wind_border} (hl:l=[⟨1,0,120000⟩,⟨0,1,120000⟩,⟨-1,0,120000⟩,⟨0,-1,120000⟩]) (hU:-1920000<=U/\U<=1920000) (hV:-1920000<=V/\V<=1920000):AreaB U V l l:=by
 subst hl;refine ⟨by simp,(Mi _).2 λi hi=>?_,λy hy=>hy,λy hy=>?_⟩
 ·match i,hi with
  | 0,_=>exact ⟨by decide,by decide⟩
  | 1,_=>exact ⟨by decide,by decide⟩
  | 2,_=>exact ⟨by decide,by decide⟩
  | 3,_=>exact ⟨by decide,by decide⟩
 ·simp at hy;rcases hy with rfl|rfl|rfl|rfl<;>(unfold satB;simp only;omega)
end
end Go.Proofs.YtkdhnnfokfchpaaGreat
namespace Go.Proofs.YtkdhnnfokfchpaaGreat
open Go Go.RowKit Go.Eng
set_option maxRecDepth 10000
set_option linter.unusedVariables false
set_option linter.unusedSimpArgs false
theorem A84 (v:Int):0<=(wb v).high/\(wb v).high<18446744073709551616:=by unfold wb;simp only;omega
theorem A85 (v:Int):0<=(wb v).low/\(wb v).low<18446744073709551616:=by unfold wb;simp only;omega
theorem A1i {x:Int} (h:0<=x/\x<18446744073709551616):okU x=true:=by unfold okU;rw [decide_eq_true h.1,decide_eq_true h.2];rfl
theorem A58 {x:Int} (h:-9000000000000000000<=x/\x<=9000000000000000000):okI x=true:=by unfold okI;rw [decide_eq_true (by omega),decide_eq_true (by omega)];rfl
theorem B0q (v:Int):wv (wb v)=v%340282366920938463463374607431768211456:=by unfold wv wb;simp only;omega
theorem A9m {u v:Int} (h:u%340282366920938463463374607431768211456=v%340282366920938463463374607431768211456):wb u=wb v:=by
 unfold wb;have:u%18446744073709551616=v%18446744073709551616:=by omega
 rw [h,this]
theorem Ro (F:Nat) (v a b:Int) (ha:-9000000000000000000<=a/\a<=9000000000000000000) (hb:-9000000000000000000<=b/\b<=9000000000000000000):Dv F (wb v) a b=some (wb (v+a*b)):=by
 unfold Dv;rw [A1i (A84 v),A1i (A85 v),A58 ha,A58 hb];simp only [Bool.and_self,cond_true]
 congr 1
 refine A9m ?_;rw [B0q];generalize a*b=p;omega
theorem A4x {v:Int} (h:-4611686018427387904<=v/\v<=4611686018427387904):H9 (wb v)=decide (v<0):=by
 unfold H9 wb;simp only;rw [Int.fdiv_eq_ediv_of_nonneg _ (by omega)]
 by_cases hv:v<0
 ·rw [decide_eq_true hv,show v%340282366920938463463374607431768211456/18446744073709551616/9223372036854775808=1 by omega];rfl
 ·rw [decide_eq_false hv,show v%340282366920938463463374607431768211456/18446744073709551616/9223372036854775808=0 by omega];rfl
theorem A1l (F:Nat) {v d:Int} (h:-4611686018427387904<=v/\v<=4611686018427387904) (hd:0<d/\d<=9000000000000000000):J1 F (wb v) d=some (v/d):=by
 have hs:wsg (wb v)=v:=by
  unfold wsg wb;simp only
  by_cases hv:v<0
  ·rw [B9 (decide_eq_true (by omega))];omega
  ·rw [Au (decide_eq_false (by omega))];omega
 unfold J1;rw [hs,A1i (A84 v),A1i (A85 v),A58 ⟨by omega,hd.2⟩,decide_eq_true hd.1,decide_eq_true h.1,decide_eq_true h.2];simp only [Bool.and_self,cond_true]
theorem A1v:wind_big.mk 0 0=wb 0:=rfl
def BdB (h:wind_border):Prop:=(-100<=h.a/\h.a<=100)/\(-100<=h.b/\h.b<=100)/\(-50000000<=h.c/\h.c<=50000000)
theorem Lt {a b m n:Int} (ha:-m<=a/\a<=m) (hb:-n<=b/\b<=n):-(m*n)<=a*b/\a*b<=m*n:=by
 have hm:0<=m:=by omega
 have hn:0<=n:=by omega
 have h1:=Int.mul_nonneg (show 0<=m-a by omega) (show 0<=n-b by omega);have h2:=Int.mul_nonneg (show 0<=m+a by omega) (show 0<=n+b by omega);have h3:=Int.mul_nonneg (show 0<=m-a by omega) (show 0<=n+b by omega);have h4:=Int.mul_nonneg (show 0<=m+a by omega) (show 0<=n-b by omega);have e1:(m-a)*(n-b)=m*n-m*b-a*n+a*b:=by grind
 have e2:(m+a)*(n+b)=m*n+m*b+a*n+a*b:=by grind
 have e3:(m-a)*(n+b)=m*n+m*b-a*n-a*b:=by grind
 have e4:(m+a)*(n-b)=m*n-m*b+a*n-a*b:=by grind
 omega
def crn (x y:wind_border):wind_corner:=⟨x.c*y.b-x.b*y.c,x.a*y.c-x.c*y.a,x.a*y.b-x.b*y.a⟩
theorem A7t {x y:wind_border} (hx:BdB x) (hy:BdB y):(-10000000000<=(crn x y).u/\(crn x y).u<=10000000000)/\(-10000000000<=(crn x y).v/\(crn x y).v<=10000000000)/\(-20000<=(crn x y).d/\(crn x y).d<=20000):=by
 obtain ⟨a1,a2,a3⟩:=hx;obtain ⟨b1,b2,b3⟩:=hy;have p1:=Lt a3 b2;have p2:=Lt a2 b3;have p3:=Lt a1 b3;have p4:=Lt a3 b1;have p5:=Lt a1 b2;have p6:=Lt a2 b1;unfold crn;simp only;omega
theorem A7r (F:Nat) {l:List wind_border} {i:Int} (h0:0<l.length) (hl:l.length<=2000000000) (hi:-(l.length:Int)<=i/\i<=(l.length:Int)):C6 F l i=some (bdB l ((i+l.length)%l.length).toNat):=by
 unfold C6;have hm:=Int.emod_nonneg (i+l.length) (show (l.length:Int)≠0 by omega);have hm2:=Int.emod_lt_of_pos (i+l.length) (show (0:Int)<l.length by omega);rw [ckb (by omega),Sv (by omega) (by omega),sb,Ev default (by omega)];rfl
theorem A3l (F:Nat) {l:List Bool} {i:Int} (h0:0<l.length) (hl:l.length<=2000000000) (hi:-(l.length:Int)<=i/\i<=(l.length:Int)):E0 F l i=some (l.getD ((i+l.length)%l.length).toNat false):=by
 unfold E0;have hm:=Int.emod_nonneg (i+l.length) (show (l.length:Int)≠0 by omega);have hm2:=Int.emod_lt_of_pos (i+l.length) (show (0:Int)<l.length by omega);rw [ckb (by omega),Sv (by omega) (by omega),sb,Ev false (by omega)]
theorem W6 (F:Nat) {l:List wind_border} {i:Nat} (hl:l.length<=2000000000) (hi:i<l.length) (hB:∀y∈l,BdB y):Fs F ⟨l⟩ (i:Int)=some (crn (bdB l i) (bdB l ((i+1)%l.length))):=by
 have hx:=hB _ (Nr hi);have hy:=hB _ (Nr (Nat.mod_lt (i+1) (show 0<l.length by omega)));unfold Fs;simp only;have e1:(((i:Int)+l.length)%l.length).toNat=i:=by
  rw [Int.add_emod_right,Int.emod_eq_of_lt (by omega) (by omega),Int.toNat_natCast]
 have e2:(((i:Int)+1+l.length)%l.length).toNat=(i+1)%l.length:=by
  rw [Int.add_emod_right,show (i:Int)+1=((i+1:Nat):Int) by omega,←Int.natCast_emod,Int.toNat_natCast]
 rw [ckb (by omega),A7r F (by omega) hl (by omega),sb,A7r F (by omega) hl (by omega),sb,e1,e2];generalize bdB l i=x at *;generalize bdB l ((i+1)%l.length)=y at *;obtain ⟨a1,a2,a3⟩:=hx;obtain ⟨b1,b2,b3⟩:=hy;have p1:=Lt a3 b2;have p2:=Lt a2 b3;have p3:=Lt a1 b3;have p4:=Lt a3 b1;have p5:=Lt a1 b2;have p6:=Lt a2 b1;rw [ckb (by omega),ckb (by omega),ckb (by omega),ckb (by omega),ckb (by omega),ckb (by omega),ckb (by omega),ckb (by omega),ckb (by omega)];rfl
theorem A08 (F:Nat) {h x y:wind_border} (hh:BdB h) (hx:BdB x) (hy:BdB y):Fg F h (crn x y)=some (Gv h x y):=by
 obtain ⟨c1,c2,c3⟩:=A7t hx hy;obtain ⟨a1,a2,a3⟩:=hh;unfold Fg;rw [A1v,Ro F _ _ _ (by omega) (by omega),sb,Ew (by omega),Ro F _ _ _ (by omega) (by omega),sb,Ew (by omega),Ro F _ _ _ (by omega) (by omega),sb];have p1:=Lt a3 c3;have p2:=Lt (show -100<=-h.a/\-h.a<=100 by omega) c1;have p3:=Lt (show -100<=-h.b/\-h.b<=100 by omega) c2;rw [A4x (by omega)];unfold Gv
 congr 2
 have:0+h.c*(crn x y).d + -h.a*(crn x y).u + -h.b*(crn x y).v=d3B x y h:=by unfold crn d3B;simp only;grind
 rw [this]
end Go.Proofs.YtkdhnnfokfchpaaGreat
namespace Go.Proofs.YtkdhnnfokfchpaaGreat
open Go Go.RowKit Go.Eng
set_option maxRecDepth 10000
set_option linter.unusedVariables false
set_option linter.unusedSimpArgs false
theorem B0u {α β:Type} {B:Nat} {n:Nat} {x:α} {f:List α->Option β} (h:B*n<=281474976710656) (h2:n<=4000000000):(mkI B ((n:Nat):Int) x).bind f=f (List.replicate n x):=by
 unfold mkI;rw [if_pos ⟨by omega,by rw [Int.toNat_natCast];exact h,by omega⟩,Int.toNat_natCast];rfl
section
variable {F:Nat} {l:List wind_border} {h:wind_border}
def flB (l:List wind_border) (h:wind_border) (j:Nat):Bool:=Gv h (bdB l j) (bdB l ((j+1)%l.length))
def P8 (l:List wind_border) (h:wind_border) (i:Nat):List Bool:=(List.range i).map (flB l h)++List.replicate (l.length-i) false
theorem Uz (i:Nat) (hi:i<=l.length):(P8 l h i).length=l.length:=by unfold P8;simp;omega
theorem Yb:P8 l h l.length=(List.range l.length).map (flB l h):=by unfold P8;simp
theorem Yc {i:Nat} (hi:i<l.length):(P8 l h l.length).getD i false=flB l h i:=by
 rw [Yb,List.getD_eq_getElem?_getD,List.getElem?_map,List.getElem?_range hi];rfl
theorem Z1 (hl:l.length<=2000000000):∀(q N i:Nat),i+q=l.length->q<N->Eh F ⟨l⟩ h N (i:Int)=if h∈l.drop i then some ⟨l⟩ else H4 F ⟨l⟩ h:=by
 intro q
 induction q with
 | zero =>
  intro N i hi hN;obtain ⟨N,rfl⟩:∃N',N=N'+1:=⟨N-1,by omega⟩;show Ee F ⟨l⟩ h (Eh F ⟨l⟩ h N) (i:Int)=_;unfold Ee;rw [Au (decide_eq_false (by simp only;omega)),List.drop_eq_nil_of_le (by omega),if_neg (by simp)]
 | succ q ih =>
  intro N i hi hN;obtain ⟨N,rfl⟩:∃N',N=N'+1:=⟨N-1,by omega⟩;show Ee F ⟨l⟩ h (Eh F ⟨l⟩ h N) (i:Int)=_;unfold Ee;have:=ih N (i+1) (by omega) (by omega);rw [Int.natCast_add] at this;rw [B9 (decide_eq_true (by simp only;omega)),Ev default (by simp only;omega),Int.toNat_natCast,D9 (i:=i) (by omega) default];simp only;generalize l.getD i default=u
  by_cases he:u=h
  ·subst he;rw [B9 (by simp),if_pos (List.mem_cons_self ..)]
  ·rw [Au (by
    cases u;cases h
    simp at he ⊢;exact λa b=>he a b),ckb (by omega)]
   refine Eq.trans this ?_
   by_cases hm:h∈l.drop (i+1)
   ·rw [if_pos hm,if_pos (List.mem_cons_of_mem _ hm)]
   ·rw [if_neg hm,if_neg (by intro hq;rcases List.mem_cons.1 hq with hq|hq;exact he hq.symm;exact hm hq)]
theorem A27 (hl:l.length<=2000000000) (hB:∀y∈l,BdB y) (hh:BdB h):∀(q N i:Nat),i+q=l.length->q<N->Eg F ⟨l⟩ h N (l.length:Int) (i:Int) (P8 l h i)=H5 F ⟨l⟩ h (P8 l h l.length):=by
 intro q
 induction q with
 | zero =>
  intro N i hi hN;obtain ⟨N,rfl⟩:∃N',N=N'+1:=⟨N-1,by omega⟩;obtain rfl:i=l.length:=by omega
  show Ed F ⟨l⟩ h (Eg F ⟨l⟩ h N) (l.length:Int) (l.length:Int) _=_;unfold Ed;rw [Au (decide_eq_false (by omega))]
 | succ q ih =>
  intro N i hi hN;obtain ⟨N,rfl⟩:∃N',N=N'+1:=⟨N-1,by omega⟩;show Ed F ⟨l⟩ h (Eg F ⟨l⟩ h N) (l.length:Int) (i:Int) _=_;unfold Ed;have:=ih N (i+1) (by omega) (by omega);rw [Int.natCast_add] at this;have hlen:=Uz (l:=l) (h:=h) i (by omega);rw [B9 (decide_eq_true (by omega)),W6 F hl (by omega) hB,sb,A08 F hh (hB _ (Nr (by omega))) (hB _ (Nr (Nat.mod_lt _ (by omega)))),sb,Ev false (by omega)];have e:(J5 (P8 l h i) (i:Int) (Gv h (bdB l i) (bdB l ((i+1)%l.length))))=some (P8 l h (i+1)):=by
   unfold J5;rw [if_pos ⟨by omega,by omega⟩,Int.toNat_natCast]
   congr 1
   unfold P8;rw [List.set_append_right _ _ (by simp),List.length_map,List.length_range,Nat.sub_self,show l.length-i=(l.length-(i+1))+1 by omega,List.replicate_succ,List.set_cons_zero,List.range_succ,List.map_append,List.append_assoc];rfl
  rw [e,sb,ckb (by omega)];exact this
theorem A00 {fs:List Bool} (hl:fs.length<=2000000000):∀(q N i:Nat),i+q=fs.length->q<N->∃k:Int,Aq fs true N (i:Int)=some k/\decide (k>=0)=(fs.drop i).any λb=>b:=by
 intro q
 induction q with
 | zero =>
  intro N i hi hN;obtain ⟨N,rfl⟩:∃N',N=N'+1:=⟨N-1,by omega⟩;refine ⟨-1,?_,?_⟩
  ·show Aw fs true (Aq fs true N) (i:Int)=_;unfold Aw;rw [Au (decide_eq_false (by omega))];rfl
  ·rw [List.drop_eq_nil_of_le (by omega)];rfl
 | succ q ih =>
  intro N i hi hN;obtain ⟨N,rfl⟩:∃N',N=N'+1:=⟨N-1,by omega⟩;obtain ⟨k,h1,h2⟩:=ih N (i+1) (by omega) (by omega);rw [Int.natCast_add] at h1;have e:Aq fs true (N+1) (i:Int)=Aw fs true (Aq fs true N) (i:Int):=rfl;rw [e];unfold Aw;rw [B9 (decide_eq_true (by omega)),Ev false (by omega),Int.toNat_natCast,D9 (i:=i) (by omega) false]
  cases fs.getD i false with
  | true=>exact ⟨i,by rw [B9 (by rfl)],by rw [decide_eq_true (by omega)];rfl⟩
  | false=>exact ⟨k,by rw [Au (by rfl),ckb (by omega)];exact h1,by rw [h2];rfl⟩
theorem Y0 (hF:3000000000<=F) (hl:l.length<=2000000000):Bq F (P8 l h l.length) true=some (A1k l h):=by
 have hlen:=Uz (l:=l) (h:=h) l.length (Nat.le_refl _);obtain ⟨k,h1,h2⟩:=A00 (fs:=P8 l h l.length) (by omega) l.length F 0 (by omega) (by omega);unfold Bq C8;have h1:Aq (P8 l h l.length) true F 0=some k:=h1;rw [h1,sb,h2,List.drop_zero,Yb,List.any_map];rfl
def emj (l:List wind_border) (h:wind_border) (j:Nat):List wind_border:=emB h (flB l h ((j+l.length-1)%l.length)) (flB l h j) (bdB l j)
theorem A6c (b e:Bool) (x:wind_border):(emB h b e x).length<=2:=by cases b<;>cases e<;>simp [emB]
theorem Zm (hl:l.length<=2000000000):∀(q N i:Nat) (acc:List wind_border),i+q=l.length->q<N->acc.length+2*q<=5000000000->Ef F ⟨l⟩ h (P8 l h l.length) N acc (i:Int)=some ⟨acc++(List.range' i q).flatMap (emj l h)⟩:=by
 intro q
 induction q with
 | zero =>
  intro N i acc hi hN ha;obtain ⟨N,rfl⟩:∃N',N=N'+1:=⟨N-1,by omega⟩;show Ec F ⟨l⟩ h _ (Ef F ⟨l⟩ h _ N) acc (i:Int)=_;unfold Ec;rw [Au (decide_eq_false (by simp only;omega))];simp [Jy]
 | succ q ih =>
  intro N i acc hi hN ha;obtain ⟨N,rfl⟩:∃N',N=N'+1:=⟨N-1,by omega⟩;have hlen:=Uz (l:=l) (h:=h) l.length (Nat.le_refl _);have em2:=A6c (h:=h) (flB l h ((i+l.length-1)%l.length)) (flB l h i) (bdB l i);have:=ih N (i+1) (acc++emj l h i) (by omega) (by omega) (by rw [List.length_append];unfold emj;omega);rw [Int.natCast_add] at this;rw [List.range'_succ,List.flatMap_cons,←List.append_assoc,←this];show Ec F ⟨l⟩ h _ (Ef F ⟨l⟩ h _ N) acc (i:Int)=_;unfold Ec;have e1:(((i:Int)-1+(P8 l h l.length).length)%(P8 l h l.length).length).toNat=(i+l.length-1)%l.length:=by
   rw [hlen,show (i:Int)-1+(l.length:Int)=((i+l.length-1:Nat):Int) by omega,←Int.natCast_emod,Int.toNat_natCast]
  have e2:(((i:Int)+(P8 l h l.length).length)%(P8 l h l.length).length).toNat=i:=by
   rw [hlen,Int.add_emod_right,Int.emod_eq_of_lt (by omega) (by omega),Int.toNat_natCast]
  rw [B9 (decide_eq_true (by simp only;omega)),Ev default (by simp only;omega),Int.toNat_natCast,ckb (by omega),A3l F (by omega) (by omega) (by omega),sb,A3l F (by omega) (by omega) (by omega),sb,e1,e2,Yc (Nat.mod_lt _ (by omega)),Yc (by omega)];have hb:l.getD i default=bdB l i:=rfl;simp only [hb];unfold emj emB H7 H6;generalize flB l h ((i+l.length-1)%l.length)=b;generalize flB l h i=e
  cases b<;>cases e
  ·rw [B9 (by rfl),Ky (by simp;omega),Au (by rfl),ckb (by omega)];rfl
  ·rw [B9 (by rfl),Ky (by simp;omega),B9 (by rfl),Ky (by simp;omega),ckb (by omega)];simp
  ·rw [B9 (by rfl),Ky (by simp;omega),Au (by rfl),ckb (by omega)];rfl
  ·rw [Au (by rfl),Au (by rfl),ckb (by omega)];simp
theorem A2c (x0:wind_border) (h0:bdB l 0=x0):∀(k i:Nat),i+(k+1)=l.length->goB h (flB l h ((i+l.length-1)%l.length)) (bdB l i) (l.drop (i+1)++[x0])=(List.range' i (k+1)).flatMap (emj l h):=by
 intro k
 induction k with
 | zero =>
  intro i hi;rw [List.drop_eq_nil_of_le (by omega)];have e:flB l h i=Gv h (bdB l i) x0:=by unfold flB;rw [show (i+1)%l.length=0 by rw [←hi];exact Nat.mod_self _,h0]
  show goB h _ (bdB l i) [x0]=_;unfold goB goB;rw [List.range'_one,List.flatMap_cons,List.flatMap_nil];unfold emj;rw [e]
 | succ k ih =>
  intro i hi;have:=ih (i+1) (by omega);rw [List.range'_succ,List.flatMap_cons,←this,D9 (i:=i+1) (by omega) default,List.cons_append];have e:flB l h i=Gv h (bdB l i) (l.getD (i+1) default):=by unfold flB;rw [Nat.mod_eq_of_lt (by omega)];rfl
  have e2:(i+1+l.length-1)%l.length=i:=by rw [show i+1+l.length-1=i+l.length by omega,Nat.add_mod_right,Nat.mod_eq_of_lt (by omega)]
  rw [e2]
  conv=>lhs;unfold goB
  unfold emj;rw [e];rfl
theorem Zq (h0:l≠[]):Wz h l=(List.range' 0 l.length).flatMap (emj l h):=by
 match l,h0 with
 | x::m,_ =>
  have:=A2c (l:=x::m) (h:=h) x rfl m.length 0 (by simp);have e:flB (x::m) h ((0+(x::m).length-1)%(x::m).length)=Gv h (L9 x m) x:=by
   unfold flB;rw [show 0+(x::m).length-1=m.length by simp,Nat.mod_eq_of_lt (by simp),Um];simp;rfl
  rw [e] at this;exact this
theorem A3x (hF:3000000000<=F) (h0:l≠[]) (hl:l.length<=2000000000) (hB:∀y∈l,BdB y) (hh:BdB h):Kh F ⟨l⟩ h=some ⟨P5 l h⟩:=by
 unfold Kh P5;have h1:=Z1 (F:=F) (h:=h) hl l.length F 0 (by omega) (by omega);rw [List.drop_zero] at h1;refine Eq.trans h1 ?_
 by_cases hm:h∈l
 ·rw [if_pos hm,if_pos hm]
 ·rw [if_neg hm,if_neg hm];unfold H4;have h2:=A27 (F:=F) hl hB hh l.length F 0 (by omega) (by omega);have e0:P8 l h 0=List.replicate l.length false:=by unfold P8;simp
  rw [e0] at h2;simp only;rw [B0u (by omega) (by omega),List.length_replicate];refine Eq.trans h2 ?_;unfold H5;rw [Y0 hF hl,sb]
  cases A1k l h with
  | false=>rw [B9 (by rfl),if_pos rfl]
  | true =>
   rw [Au (by rfl),if_neg (by decide)];have h3:=Zm (F:=F) (h:=h) hl l.length F 0 [] (by omega) (by omega) (by simp;omega);rw [List.nil_append,←Zq h0] at h3;exact h3
theorem A6g:∀(m:List wind_border) (x:wind_border) (b:Bool) (e:Bool),(match m.getLast? with|some z=>Gv h (L9 x m.dropLast) z=e|none=>b=e)->2*(goB h b x m).length+(bif e then 0 else 1)<=3*m.length+(bif b then 0 else 1):=by
 intro m
 induction m with
 | nil=>intro x b e he;simp at he;subst he;simp [goB]
 | cons y m ih =>
  intro x b e he;have h1:2*(goB h (Gv h x y) y m).length+(bif e then 0 else 1)<=3*m.length+(bif Gv h x y then 0 else 1):=by
   refine ih y (Gv h x y) e ?_
   match m,he with
   | [],he=>simpa [L9] using he
   | z::m,he =>
    rw [List.getLast?_cons_cons] at he;exact he
  unfold goB;rw [List.length_append,List.length_cons];generalize Gv h x y=c at *;unfold emB
  cases b<;>cases c<;>simp at h1 ⊢<;>omega
theorem Y2 (h0:l≠[]):2*(P5 l h).length<=3*l.length:=by
 unfold P5
 split
 ·omega
 ·split
  ·omega
  ·match l,h0 with
   | x::m,_ =>
    have:=A6g (h:=h) (m++[x]) x (Gv h (L9 x m) x) (Gv h (L9 x m) x) (by simp);show 2*(goB h (Gv h (L9 x m) x) x (m++[x])).length<=_;simp at this ⊢;omega
theorem Y3 {y:wind_border} (hy:y∈P5 l h):y=h\/y∈l:=by
 unfold P5 at hy
 split at hy
 ·exact .inr hy
 ·split at hy
  ·exact .inr hy
  ·match l,hy with
   | x::m,hy =>
    rcases X8 (m++[x]) x y _ hy with rfl|rfl|hy
    ·exact .inl rfl
    ·exact .inr (List.mem_cons_self ..)
    ·rcases List.mem_append.1 hy with hy|hy
     ·exact .inr (List.mem_cons_of_mem _ hy)
     ·simp at hy;subst hy;exact .inr (List.mem_cons_self ..)
   | [],hy=>simp [Wz] at hy
end
end Go.Proofs.YtkdhnnfokfchpaaGreat
namespace Go.Proofs.YtkdhnnfokfchpaaGreat
open Go Go.RowKit Go.Eng
set_option maxRecDepth 10000
set_option linter.unusedVariables false
set_option linter.unusedSimpArgs false
structure SgB (U V:Int) (x:wind_Sight):Prop where
 bl:1<=x.L/\x.L<=100
 bx:-x.L<=x.X/\x.X<=x.L
 bY:-x.L<=x.Y/\x.Y<=x.L
 sq:x.X*x.X+x.Y*x.Y=x.L*x.L
 bs:-30000<=x.Speed.Lo/\x.Speed.Lo<=x.Speed.Hi/\x.Speed.Hi<=30000
 lo:16*(x.Speed.Lo*x.L)<=x.X*U+x.Y*V
 hi:x.X*U+x.Y*V<=16*(x.Speed.Hi*x.L)
def skyB:List wind_border:=[⟨1,0,120000⟩,⟨0,1,120000⟩,⟨-1,0,120000⟩,⟨0,-1,120000⟩]
structure ArB (U V:Int) (n:Nat) (l:List wind_border):Prop where
 ex:∃A,AreaB U V A l/\∀y∈skyB,y∈A
 bd:∀y∈l,BdB y
 len:l.length*4 ^ n<=4*9 ^ n
theorem A99 {n:Nat} (hn:n<=24):4*9 ^ n<=1200000000*4 ^ n:=by
 have:∀k:Fin 25,4*9 ^ k.val<=1200000000*4 ^ k.val:=by decide
 exact this ⟨n,by omega⟩
theorem ArB.le {U V:Int} {n:Nat} {l:List wind_border} (h:ArB U V n l) (hn:n<=24):l.length<=1200000000:=by
 have h1:=Nat.le_trans h.len (A99 hn);exact Nat.le_of_mul_le_mul_right h1 (Nat.pow_pos (by omega))
section
variable {U V:Int} {F n:Nat} {l:List wind_border} {x:wind_Sight}
theorem A9e (hx:SgB U V x) {w:Int} (hw:0<=w):satB U V ⟨x.X,x.Y,(x.Speed.Hi+w)*x.L⟩:=by
 unfold satB;simp only;have h1:=hx.hi;have h2:=Int.mul_nonneg hw (show 0<=x.L by have:=hx.bl;omega);rw [Int.add_mul];omega
theorem A9f (hx:SgB U V x) {w:Int} (hw:0<=w):satB U V ⟨-x.X,-x.Y,(w-x.Speed.Lo)*x.L⟩:=by
 unfold satB;simp only;have h1:=hx.lo;have h2:=Int.mul_nonneg hw (show 0<=x.L by have:=hx.bl;omega);rw [Int.sub_mul,Int.neg_mul,Int.neg_mul];omega
theorem A2o (hF:3000000000<=F) (hA:ArB U V n l) (hn:n<24) (hx:SgB U V x) {w:Int} (hw:0<=w/\w<=400000):∃l',H8 F ⟨l⟩ x w=some ⟨l'⟩/\ArB U V (n+1) l':=by
 obtain ⟨⟨A,hA1,hA2⟩,hB,hlen⟩:=id hA;have hle:=hA.le (by omega);have hl:=hx.bl;have hX:=hx.bx;have hY:=hx.bY;have hs:=hx.bs;have p1:=Lt (show -430000<=x.Speed.Hi+w/\x.Speed.Hi+w<=430000 by omega) (show -100<=x.L/\x.L<=100 by omega);have p2:=Lt (show -430000<=w-x.Speed.Lo/\w-x.Speed.Lo<=430000 by omega) (show -100<=x.L/\x.L<=100 by omega);have b1:BdB ⟨x.X,x.Y,(x.Speed.Hi+w)*x.L⟩:=by refine ⟨?_,?_,?_⟩<;>simp only<;>omega
 have b2:BdB ⟨-x.X,-x.Y,(w-x.Speed.Lo)*x.L⟩:=by refine ⟨?_,?_,?_⟩<;>simp only<;>omega
 obtain ⟨h1,e1⟩:∃h1:wind_border,h1=⟨x.X,x.Y,(x.Speed.Hi+w)*x.L⟩:=⟨_,rfl⟩;obtain ⟨h2,e2⟩:∃h2:wind_border,h2=⟨-x.X,-x.Y,(w-x.Speed.Lo)*x.L⟩:=⟨_,rfl⟩;have s1:=A9e hx hw.1;have s2:=A9f hx hw.1;rw [←e1] at b1 s1;rw [←e2] at b2 s2;have c1:=hA1.cut s1;have c2:=c1.cut s2;have n1:=Y2 (h:=h1) hA1.ne;have n2:=Y2 (h:=h2) c1.ne;have B1:∀y∈P5 l h1,BdB y:=λy hy=>by rcases Y3 hy with rfl|hy;exact b1;exact hB y hy
 have B2:∀y∈P5 (P5 l h1) h2,BdB y:=λy hy=>by rcases Y3 hy with rfl|hy;exact b2;exact B1 y hy
 refine ⟨P5 (P5 l h1) h2,?_,⟨_,c2,λy hy=>List.mem_cons_of_mem _ (List.mem_cons_of_mem _ (hA2 y hy))⟩,B2,?_⟩
 ·unfold H8;rw [ckb (by omega),ckb (by omega),ckb (by omega),ckb (by omega)];simp only;obtain ⟨G,rfl⟩:∃G,F=G+3:=⟨F-3,by omega⟩;have ne:∀{m:List wind_border},m≠[]->Bk ⟨m⟩=false:=by
   intro m hm;unfold Bk
   match m,hm with
   | a::m,_=>simp;omega
  have step:∀(k:Int->Option wind_area) , True:=λ_=>trivial;show C3 (G+3) x _ _ (Cy (G+3) x _ _ (G+2)) l 0=_;unfold C3;rw [B9 (by rfl),Ew (by omega),Ew (by omega),←e1,←e2,Ev default ⟨by omega,by show (0:Int)<((2:Nat):Int);omega⟩];have g0:([h1,h2]:List wind_border).getD (Int.toNat 0) default=h1:=rfl;rw [g0,ne hA1.ne,Au (by rfl),A3x hF hA1.ne (by omega) hB b1,sb,ckb (by decide)];show C3 (G+3) x _ _ (Cy (G+3) x _ _ (G+1)) (P5 l h1) 1=_;unfold C3;rw [B9 (by rfl),Ew (by omega),Ew (by omega),←e1,←e2,Ev default ⟨by omega,by show (1:Int)<((2:Nat):Int);omega⟩];have g1:([h1,h2]:List wind_border).getD (Int.toNat 1) default=h2:=rfl;rw [g1,ne c1.ne,Au (by rfl),A3x hF c1.ne (by omega) B1 b2,sb,ckb (by decide)];show C3 (G+3) x _ _ (Cy (G+3) x _ _ G) (P5 (P5 l h1) h2) 2=_;unfold C3;rw [Au (by rfl)];rfl
 ·rw [Nat.pow_succ,Nat.pow_succ];have h3:4*(P5 (P5 l h1) h2).length<=9*l.length:=by omega
  have h4:=Nat.mul_le_mul_right (4 ^ n) h3;have h5:=Nat.mul_le_mul_left 9 hlen;generalize (P5 (P5 l h1) h2).length=a at *;generalize l.length=b at *;generalize 4 ^ n=c at *;generalize 9 ^ n=d at *;have e3:a*(c*4)=4*a*c:=by grind
  have e4:9*b*c=9*(b*c):=by grind
  omega
theorem Vt (hF:3000000000<=F) {xs:List wind_Sight} (hx:∀x∈xs,SgB U V x) (hn:xs.length<=24) {w:Int} (hw:0<=w/\w<=400000):∀(q N i:Nat) (l:List wind_border),i+q=xs.length->q<N->ArB U V i l->∃l',Cg F xs w N l (i:Int)=some ⟨l'⟩/\ArB U V xs.length l':=by
 intro q
 induction q with
 | zero =>
  intro N i l hi hN hA;obtain ⟨N,rfl⟩:∃N',N=N'+1:=⟨N-1,by omega⟩;obtain rfl:i=xs.length:=by omega
  refine ⟨l,?_,hA⟩;show Cf F xs w (Cg F xs w N) l (xs.length:Int)=_;unfold Cf;rw [Au (decide_eq_false (by omega))];rfl
 | succ q ih =>
  intro N i l hi hN hA;obtain ⟨N,rfl⟩:∃N',N=N'+1:=⟨N-1,by omega⟩;have hm:xs.getD i default∈xs:=by rw [List.getD_eq_getElem?_getD,List.getElem?_eq_getElem (by omega:i<xs.length)];exact List.getElem_mem _
  obtain ⟨l1,e1,h1⟩:=A2o hF hA (by omega) (hx _ hm) hw;obtain ⟨l',e2,h2⟩:=ih N (i+1) l1 (by omega) (by omega) h1;rw [Int.natCast_add] at e2;refine ⟨l',?_,h2⟩;show Cf F xs w (Cg F xs w N) l (i:Int)=_;unfold Cf;rw [B9 (decide_eq_true (by omega)),Ev default (by omega),Int.toNat_natCast,e1,sb,ckb (by omega)];exact e2
theorem A9h (hU:-1920000<=U/\U<=1920000) (hV:-1920000<=V/\V<=1920000):ArB U V 0 skyB :=
 ⟨⟨skyB,A2y rfl hU hV,λ_ h=>h⟩,λy hy=>by simp [skyB] at hy;rcases hy with rfl|rfl|rfl|rfl<;>(refine ⟨?_,?_,?_⟩<;>decide),by decide⟩
theorem Nv (hF:3000000000<=F) (hU:-1920000<=U/\U<=1920000) (hV:-1920000<=V/\V<=1920000) {xs:List wind_Sight} (hx:∀x∈xs,SgB U V x) (hn:xs.length<=24) {w:Int} (hw:0<=w/\w<=400000):∃l',D6 F ⟨wind_sky.circle⟩ xs w=some ⟨l'⟩/\ArB U V xs.length l'/\Bk ⟨l'⟩=false:=by
 obtain ⟨l',h1,h2⟩:=Vt hF hx hn hw xs.length F 0 skyB (by omega) (by omega) (A9h hU hV);refine ⟨l',h1,h2,?_⟩;obtain ⟨A,h3,_⟩:=h2.ex;unfold Bk
 match l',h3.ne with
 | a::m,_=>simp;omega
theorem A0e (hl:l.length<=1200000000) (hB:∀y∈l,BdB y) (hd:∀i,i<l.length->0<crB (bdB l i) (bdB l ((i+1)%l.length))) {x y len:Int} (hx:-100<=x/\x<=100) (hy:-100<=y/\y<=100) (hlen:1<=len/\len<=100) :
  ∀(q N i:Nat) (hi lo:Int),i+q=l.length->q<N->hi<=10000000000000->-10000000000000<=lo->∃s,D8 F ⟨l⟩ x y len N hi (i:Int) lo=some s/\s.Lo<=lo/\hi<=s.Hi/\(-10000000000000<=s.Lo/\s.Hi<=10000000000000) /\
   ∀j,i<=j->j<l.length->s.Lo<=(x*(crn (bdB l j) (bdB l ((j+1)%l.length))).u+y*(crn (bdB l j) (bdB l ((j+1)%l.length))).v)/((crn (bdB l j) (bdB l ((j+1)%l.length))).d*len) /\
    -((-x*(crn (bdB l j) (bdB l ((j+1)%l.length))).u + -y*(crn (bdB l j) (bdB l ((j+1)%l.length))).v)/((crn (bdB l j) (bdB l ((j+1)%l.length))).d*len))<=s.Hi:=by
 intro q
 induction q with
 | zero =>
  intro N i hi lo h1 hN z1 z2;obtain ⟨N,rfl⟩:∃N',N=N'+1:=⟨N-1,by omega⟩;refine ⟨⟨lo,hi⟩,?_,Int.le_refl _,Int.le_refl _,⟨z2,z1⟩,λj hj hj2=>by omega⟩;show D7 F ⟨l⟩ x y len (D8 F ⟨l⟩ x y len N) hi (i:Int) lo=_;unfold D7;rw [Au (decide_eq_false (by simp only;omega))];rfl
 | succ q ih =>
  intro N i hi lo h1 hN z1 z2;obtain ⟨N,rfl⟩:∃N',N=N'+1:=⟨N-1,by omega⟩;have hbx:=hB _ (Nr (show i<l.length by omega));have hby:=hB _ (Nr (Nat.mod_lt (i+1) (show 0<l.length by omega)));have hdi:=hd i (by omega);obtain ⟨c,hc⟩:∃c,crn (bdB l i) (bdB l ((i+1)%l.length))=c:=⟨_,rfl⟩;obtain ⟨c1,c2,c3⟩:=A7t hbx hby;have hcd:0<c.d:=by rw [←hc];exact hdi
  rw [hc] at c1 c2 c3;have p1:=Lt hx c1;have p2:=Lt hy c2;have p3:=Lt (show -100<=-x/\-x<=100 by omega) c1;have p4:=Lt (show -100<=-y/\-y<=100 by omega) c2;have p5:=Lt c3 (show -100<=len/\len<=100 by omega);have p6:0<c.d*len:=Int.mul_pos hcd (by omega);obtain ⟨D,hD⟩:∃D,c.d*len=D:=⟨_,rfl⟩;rw [hD] at p5 p6;obtain ⟨V1,hV1⟩:∃V1,x*c.u+y*c.v=V1:=⟨_,rfl⟩;obtain ⟨V2,hV2⟩:∃V2,-x*c.u + -y*c.v=V2:=⟨_,rfl⟩;have q1:-10000000000000<=V2/D/\V2/D<=10000000000000:=by
   constructor
   ·exact Int.le_ediv_of_mul_le p6 (by have:=Int.mul_le_mul_of_nonneg_left (show (1:Int)<=D by omega) (show (0:Int)<=10000000000000 by omega);omega)
   ·exact Int.ediv_le_of_le_mul p6 (by have:=Int.mul_le_mul_of_nonneg_left (show (1:Int)<=D by omega) (show (0:Int)<=10000000000000 by omega);omega)
  have q2:-10000000000000<=V1/D/\V1/D<=10000000000000:=by
   constructor
   ·exact Int.le_ediv_of_mul_le p6 (by have:=Int.mul_le_mul_of_nonneg_left (show (1:Int)<=D by omega) (show (0:Int)<=10000000000000 by omega);omega)
   ·exact Int.ediv_le_of_le_mul p6 (by have:=Int.mul_le_mul_of_nonneg_left (show (1:Int)<=D by omega) (show (0:Int)<=10000000000000 by omega);omega)
  obtain ⟨s,h2,h3,h4,h9,h5⟩:=ih N (i+1) (if -(V2/D)>hi then -(V2/D) else hi) (if V1/D<lo then V1/D else lo) (by omega) (by omega) (by split<;>omega) (by split<;>omega);rw [Int.natCast_add] at h2;refine ⟨s,?_,by split at h3<;>omega,by split at h4<;>omega,h9,λj hj hj2=>?_⟩
  ·show D7 F ⟨l⟩ x y len (D8 F ⟨l⟩ x y len N) hi (i:Int) lo=_;unfold D7;rw [B9 (decide_eq_true (by simp only;omega)),W6 F (by omega) (by omega) hB,sb,hc,A1v,Ro F _ _ _ (by omega) (by omega),sb,Ro F _ _ _ (by omega) (by omega),sb,hD,ckb (by omega),Int.zero_add,hV1,A1l F (by omega) (by omega),sb,
    Ew (by omega),Ro F _ _ _ (by omega) (by omega),sb,Ew (by omega),Ro F _ _ _ (by omega) (by omega),sb,ckb (by omega),Int.zero_add,hV2,A1l F (by omega) (by omega),sb,ckb (by omega),Ew (by omega)]
   exact h2
  ·rcases Nat.lt_or_ge i j with h6|h6
   ·exact h5 j h6 hj2
   ·obtain rfl:j=i:=by omega
    rw [hc,hD,hV1,hV2]
    split at h3<;>split at h4<;>omega
theorem Vh (hF:3000000000<=F) (hA:ArB U V n l) (hn:n<=24) {x y len:Int} (hx:-100<=x/\x<=100) (hy:-100<=y/\y<=100) (hlen:1<=len/\len<=100) :
  ∃s,Gb F ⟨l⟩ x y len=some s/\16*(len*s.Lo)<=x*U+y*V/\x*U+y*V<=16*(len*s.Hi)/\(-10000000000000<=s.Lo/\s.Hi<=10000000000000):=by
 obtain ⟨⟨A,hA1,hA2⟩,hB,_⟩:=id hA;have hle:=hA.le hn;have hcy:=(Mi l).1 hA1.cyc;obtain ⟨s,h1,_,_,h9,h2⟩:=A0e (F:=F) hle hB (λi hi=>(hcy i hi).1) hx hy hlen l.length F 0 (-240000) 240000 (by omega) (by omega) (by omega) (by omega);refine ⟨s,h1,?_,?_,h9⟩
 ·obtain ⟨p,q,⟨j,hj,rfl,rfl⟩,hc,hf⟩:=hA1.far ⟨-x,-y,0⟩;obtain ⟨h3,_⟩:=h2 j (Nat.zero_le _) hj;have hd:(crn (bdB l j) (bdB l ((j+1)%l.length))).d=crB (bdB l j) (bdB l ((j+1)%l.length)):=rfl;have hc0:=hc.1;have e:(bdB l j).c*(bdB l ((j+1)%l.length)).b-(bdB l j).b*(bdB l ((j+1)%l.length)).c=(crn (bdB l j) (bdB l ((j+1)%l.length))).u:=rfl;have e':(bdB l j).a*(bdB l ((j+1)%l.length)).c-(bdB l j).c*(bdB l ((j+1)%l.length)).a=(crn (bdB l j) (bdB l ((j+1)%l.length))).v:=rfl;simp only [e,e'] at hf;rw [hd] at h3;generalize crB (bdB l j) (bdB l ((j+1)%l.length))=d at *;generalize (crn (bdB l j) (bdB l ((j+1)%l.length))).u=cu at *;generalize (crn (bdB l j) (bdB l ((j+1)%l.length))).v=cv at *;have h4:=Int.le_trans (Int.mul_le_mul_of_nonneg_right h3 (Int.le_of_lt (Int.mul_pos hc0 (show 0<len by omega)))) (Int.ediv_mul_le _ (show d*len≠0 by have:=Int.mul_pos hc0 (show 0<len by omega);omega));have e1:d*(-x*U + -y*V)=-(d*(x*U+y*V)):=by grind
  have e2:16*(-x*cu + -y*cv)=-(16*(x*cu+y*cv)):=by grind
  have e3:s.Lo*(d*len)=d*(len*s.Lo):=by grind
  have e4:d*(16*(len*s.Lo))=16*(d*(len*s.Lo)):=by grind
  exact Int.le_of_mul_le_mul_left (a:=d) (by omega) hc0
 ·obtain ⟨p,q,⟨j,hj,rfl,rfl⟩,hc,hf⟩:=hA1.far ⟨x,y,0⟩;obtain ⟨_,h3⟩:=h2 j (Nat.zero_le _) hj;have hd:(crn (bdB l j) (bdB l ((j+1)%l.length))).d=crB (bdB l j) (bdB l ((j+1)%l.length)):=rfl;have hc0:=hc.1;have e:(bdB l j).c*(bdB l ((j+1)%l.length)).b-(bdB l j).b*(bdB l ((j+1)%l.length)).c=(crn (bdB l j) (bdB l ((j+1)%l.length))).u:=rfl;have e':(bdB l j).a*(bdB l ((j+1)%l.length)).c-(bdB l j).c*(bdB l ((j+1)%l.length)).a=(crn (bdB l j) (bdB l ((j+1)%l.length))).v:=rfl;simp only [e,e'] at hf;rw [hd] at h3;generalize crB (bdB l j) (bdB l ((j+1)%l.length))=d at *;generalize (crn (bdB l j) (bdB l ((j+1)%l.length))).u=cu at *;generalize (crn (bdB l j) (bdB l ((j+1)%l.length))).v=cv at *;have h3':-s.Hi<=(-x*cu + -y*cv)/(d*len):=by omega
  have h4:=Int.le_trans (Int.mul_le_mul_of_nonneg_right h3' (Int.le_of_lt (Int.mul_pos hc0 (show 0<len by omega)))) (Int.ediv_mul_le _ (show d*len≠0 by have:=Int.mul_pos hc0 (show 0<len by omega);omega));have e2:-x*cu + -y*cv=-(x*cu+y*cv):=by grind
  have e3:-s.Hi*(d*len)=-(d*(len*s.Hi)):=by grind
  have e4:d*(16*(len*s.Hi))=16*(d*(len*s.Hi)):=by grind
  exact Int.le_of_mul_le_mul_left (a:=d) (by omega) hc0
end
end Go.Proofs.YtkdhnnfokfchpaaGreat
namespace Go.Proofs.YtkdhnnfokfchpaaGreat
open Go Go.RowKit Go.Eng
set_option maxRecDepth 10000
set_option linter.unusedVariables false
set_option linter.unusedSimpArgs false
section
variable {U V:Int} {F:Nat} {x:wind_Sight} {xs:List wind_Sight}
theorem Sd (X Y L:Int) (hl:1<=L/\L<=100) (hx:-L<=X/\X<=L) (hy:-L<=Y/\Y<=L) (hs:X*X+Y*Y=L*L):Ha F X Y L=some true:=by
 have p1:=Lt (show -100<=X/\X<=100 by omega) (show -100<=X/\X<=100 by omega);have p2:=Lt (show -100<=Y/\Y<=100 by omega) (show -100<=Y/\Y<=100 by omega);have p3:=Lt (show -100<=L/\L<=100 by omega) (show -100<=L/\L<=100 by omega);have e1:decide (L>=1)=true:=decide_eq_true hl.1;have e2:decide (L<=64800)=true:=decide_eq_true (by omega);have e3:decide ((if -Y>if -X>if Y>X then Y else X then -X else if Y>X then Y else X then -Y else if -X>if Y>X then Y else X then -X else if Y>X then Y else X)<=L)=true:=by
  refine decide_eq_true ?_
  repeat' split
  all_goals omega
 have e4:decide ((if -Y<if -X<if Y<X then Y else X then -X else if Y<X then Y else X then -Y else if -X<if Y<X then Y else X then -X else if Y<X then Y else X)>=-L)=true:=by
  refine decide_eq_true ?_
  repeat' split
  all_goals omega
 unfold Ha;rw [Ew (by omega),Ew (by omega),Ew (by omega)];simp only [e1,e2,e3,e4,cond_true];rw [gdT (by rfl),ckb (by omega),gdT (by rfl),ckb (by omega),gdT (by rfl),ckb (by omega),gdT (by rfl),ckb (by omega),hs];simp
theorem A3r (hx:SgB U V x):Nm F x=some 0:=by
 have hs:=hx.bs;unfold Nm;rw [Sd _ _ _ hx.bl hx.bx hx.bY hx.sq,sb];have:E4 x.Speed 400000=true:=by
  unfold E4;rw [Ew (by omega),B9 (by rw [B9 (decide_eq_true (by omega))];exact decide_eq_true (by omega))];exact decide_eq_true (by omega)
 rw [this];rfl
theorem Yh (hx:∀x∈xs,SgB U V x) (hn:xs.length<=24):∀(q N i:Nat),i+q=xs.length->q<N->Ao F xs N (i:Int)=some (-1):=by
 intro q
 induction q with
 | zero =>
  intro N i hi hN;obtain ⟨N,rfl⟩:∃N',N=N'+1:=⟨N-1,by omega⟩;show Ap F xs (Ao F xs N) (i:Int)=_;unfold Ap;rw [Au (decide_eq_false (by omega))];rfl
 | succ q ih =>
  intro N i hi hN;obtain ⟨N,rfl⟩:∃N',N=N'+1:=⟨N-1,by omega⟩;have:=ih N (i+1) (by omega) (by omega);rw [Int.natCast_add] at this;have hm:xs.getD i default∈xs:=by rw [List.getD_eq_getElem?_getD,List.getElem?_eq_getElem (by omega:i<xs.length)];exact List.getElem_mem _
  show Ap F xs (Ao F xs N) (i:Int)=_;unfold Ap Me;rw [B9 (decide_eq_true (by omega)),Ev default (by omega),Int.toNat_natCast,A3r (hx _ hm),sb,sb,Au (by rfl),ckb (by omega)];exact this
theorem R9 (hF:1000<=F) (hx:∀x∈xs,SgB U V x) (hn:xs.length<=24):He F xs=some 0:=by
 unfold He;have h1:Ao F xs F 0=some (-1):=Yh hx hn xs.length F 0 (by omega) (by omega);rw [Au (decide_eq_false (by omega))];unfold Bn Bt;rw [h1];rfl
theorem Zb (hF:3000000000<=F) (hU:-1920000<=U/\U<=1920000) (hV:-1920000<=V/\V<=1920000) (hx:∀x∈xs,SgB U V x) (hn:xs.length<=24):∀(N:Nat) (h:Int),0<=h/\h<=400000->h<N->H3 F xs N h=some (0,0):=by
 intro N
 induction N with
 | zero=>intro h h1 h2;omega
 | succ N ih =>
  intro h h1 h2;show Jr F xs (H3 F xs N) h=_;unfold Jr
  by_cases hz:0<h
  ·obtain ⟨l',e1,e2,e3⟩:=Nv hF hU hV hx hn (w:=h/2) (by omega);have hq:Pd (0+h) 2=some (h/2):=by
    unfold Pd;rw [if_neg (by omega),Int.zero_add,Int.tdiv_eq_ediv_of_nonneg (by omega)];exact ck1 (by omega)
   rw [B9 (decide_eq_true hz),ckb (by omega),hq,sb,e1,sb,e3,Au (by rfl)];exact ih _ (by omega) (by omega)
  ·rw [Au (decide_eq_false hz)];rfl
theorem A34 (hF:3000000000<=F) (hU:-1920000<=U/\U<=1920000) (hV:-1920000<=V/\V<=1920000) (hx:∀x∈xs,SgB U V x) (hn:xs.length<=24):Mq F xs=some (0,0):=by
 unfold Mq;rw [R9 (by omega) hx hn,sb,Au (by rfl)];exact Zb hF hU hV hx hn F 400000 (by omega) (by omega)
theorem A21 (hF:3000000000<=F) (hU:-1920000<=U/\U<=1920000) (hV:-1920000<=V/\V<=1920000) (hx:∀x∈xs,SgB U V x) (hn:xs.length<=24):∃w,Kw F xs=some (w,0)/\(16*w.U.Lo<=U/\U<=16*w.U.Hi)/\(16*w.V.Lo<=V/\V<=16*w.V.Hi)/\(-10000000000000<=w.U.Lo/\w.U.Hi<=10000000000000)/\(-10000000000000<=w.V.Lo/\w.V.Hi<=10000000000000):=by
 obtain ⟨l',e1,e2,e3⟩:=Nv hF hU hV hx hn (w:=0) (by omega);obtain ⟨s,r1,r2,r3,r7⟩:=Vh hF e2 hn (x:=1) (y:=0) (len:=1) (by omega) (by omega) (by omega);obtain ⟨s',r4,r5,r6,r8⟩:=Vh hF e2 hn (x:=0) (y:=1) (len:=1) (by omega) (by omega) (by omega);refine ⟨⟨s,s'⟩,?_,⟨by simp only;omega,by simp only;omega⟩,⟨by simp only;omega,by simp only;omega⟩,r7,r8⟩;unfold Kw;rw [R9 (by omega) hx hn,sb,Au (by rfl),e1,sb,e3,Au (by rfl),r1,sb,r4,sb]
theorem A3o (hF:3000000000<=F) (hU:-1920000<=U/\U<=1920000) (hV:-1920000<=V/\V<=1920000) (hx:∀x∈xs,SgB U V x) (hn:xs.length<=24):Nl F xs=some ([],4):=by
 obtain ⟨l',e1,e2,e3⟩:=Nv hF hU hV hx hn (w:=0) (by omega);unfold Nl;rw [R9 (by omega) hx hn,sb,Au (by rfl),e1,sb,e3,B9 (by rfl)]
theorem A3j (hF:3000000000<=F) (hU:-1920000<=U/\U<=1920000) (hV:-1920000<=V/\V<=1920000) (hx:∀x∈xs,SgB U V x) (hn:xs.length<=24):∃s,Nk F xs 4 (-3) 5=some (s,0)/\80*s.Lo<=4*U-3*V/\4*U-3*V<=80*s.Hi/\(-10000000000000<=s.Lo/\s.Hi<=10000000000000):=by
 obtain ⟨l',e1,e2,e3⟩:=Nv hF hU hV hx hn (w:=0) (by omega);obtain ⟨s,r1,r2,r3,r4⟩:=Vh hF e2 hn (x:=4) (y:=-3) (len:=5) (by omega) (by omega) (by omega);refine ⟨s,?_,by omega,by omega,r4⟩;unfold Nk;rw [R9 (by omega) hx hn,sb,Au (by rfl),Sd 4 (-3) 5 (by omega) (by omega) (by omega) (by decide),sb,Au (by rfl),e1,sb,e3,Au (by rfl),r1,sb]
end
end Go.Proofs.YtkdhnnfokfchpaaGreat
namespace Go.Proofs.YtkdhnnfokfchpaaGreat
open Go Go.RowKit Go.Eng
set_option maxRecDepth 10000
set_option linter.unusedVariables false
set_option linter.unusedSimpArgs false
theorem Rb (x:Int):Bh x=x%65536:=by
 unfold Bh A8d;have e:((BitVec.ofInt (IntKind.bits .i64) x &&& BitVec.ofInt (IntKind.bits .i64) 65535).toNat:Int)=x%65536:=by
  have e1:(BitVec.ofInt (IntKind.bits .i64) 65535).toNat=2 ^ 16-1:=by decide
  have e2:(BitVec.ofInt (IntKind.bits .i64) x).toNat=(x%18446744073709551616).toNat:=BitVec.toNat_ofInt ..;rw [BitVec.toNat_and,e1,Nat.and_two_pow_sub_one_eq_mod,e2];omega
 rw [e];exact Go.Eng.wrap64 ⟨by omega,by omega⟩
theorem Ru (x:Int):∀l:List Int,(Uh x l).Perm (x::l)
 | []=>.refl _
 | y::l=>by
  unfold Uh
  cases decide (x<=y) with
  | true=>exact .refl _
  | false=>exact ((Ru x l).cons y).trans (.swap x y l)
theorem Qt:∀l:List Int,(sortI l).Perm l
 | []=>.refl _
 | x::l=>(Ru x (sortI l)).trans ((Qt l).cons x)
theorem So (x:Int):∀l:List Int,l.Pairwise (·<=·)->(Uh x l).Pairwise (·<=·)
 | [],_=>by unfold Uh;simp
 | y::l,h=>by
  have h1:=List.pairwise_cons.1 h;unfold Uh
  cases hd:decide (x<=y) with
  | true =>
   have:=of_decide_eq_true hd;refine List.pairwise_cons.2 ⟨λz hz=>?_,h⟩;rcases List.mem_cons.1 hz with rfl|hz
   ·exact this
   ·have:=h1.1 z hz;omega
  | false =>
   have:=of_decide_eq_false hd;refine List.pairwise_cons.2 ⟨λz hz=>?_,So x l h1.2⟩;rcases List.mem_cons.1 ((Ru x l).mem_iff.1 hz) with rfl|hz
   ·omega
   ·exact h1.1 z hz
theorem Rm:∀l:List Int,(sortI l).Pairwise (·<=·)
 | []=>.nil
 | x::l=>So x _ (Rm l)
theorem Tb:∀(l:List Int) (x:Int),(Rq x l).length<=l.length
 | [],_=>Nat.le_refl _
 | y::l,x=>by
  unfold Rq
  cases (y==x) with
  | true=>exact Nat.le_trans (Tb l y) (Nat.le_succ _)
  | false=>exact Nat.succ_le_succ (Tb l y)
theorem A24:∀l:List Int,(Mh l).length<=l.length
 | []=>Nat.le_refl _
 | x::l=>Nat.succ_le_succ (Tb l x)
theorem Ur (y:Int):∀(l:List Int) (x:Int),y∈x::Rq x l↔y∈x::l
 | [],x=>Iff.rfl
 | z::l,x=>by
  unfold Rq;have ih:=Ur y l z
  cases h:(z==x) with
  | true =>
   have:=eq_of_beq h;subst this;show y∈z::Rq z l↔_;rw [ih];simp
  | false =>
   show y∈x::z::Rq z l↔y∈x::z::l;rw [List.mem_cons,ih,←List.mem_cons]
theorem A3v (y:Int):∀l:List Int,y∈Mh l↔y∈l
 | []=>Iff.rfl
 | x::l=>Ur y l x
theorem Y1:∀(l:List Int) (x:Int),(x::l).Pairwise (·<=·)->(x::Rq x l).Pairwise (· < ·)
 | [],x,_=>List.pairwise_singleton ..
 | z::l,x,h=>by
  have h1:=List.pairwise_cons.1 h;have h2:=List.pairwise_cons.1 h1.2;have hz:=h1.1 z (List.mem_cons_self ..);unfold Rq;have ih:=Y1 l z h1.2
  cases hq:(z==x) with
  | true =>
   have:=eq_of_beq hq;subst this;exact ih
  | false =>
   have hne:z≠x:=λe=>by rw [e] at hq;simp at hq
   refine List.pairwise_cons.2 ⟨λy hy=>?_,ih⟩;rcases List.mem_cons.1 ((Ur y l z).1 hy) with rfl|hy
   ·omega
   ·have:=h2.1 y hy;omega
theorem A3t:∀l:List Int,l.Pairwise (·<=·)->(Mh l).Pairwise (· < ·)
 | [],_=>.nil
 | x::l,h=>Y1 l x h
def gI (l:List Int) (i:Nat):Int:=l.getD i 0
theorem Pt {l:List Int} {i:Nat} (h:i<l.length):gI l i∈l:=by
 unfold gI;rw [List.getD_eq_getElem?_getD,List.getElem?_eq_getElem h];exact List.getElem_mem _
theorem Ta {l:List Int} (h:l.Pairwise (· < ·)) {i j:Nat} (hij:i<j) (hj:j<l.length):gI l i<gI l j:=by
 have:=List.pairwise_iff_getElem.1 h i j (by omega) hj hij;unfold gI;rw [List.getD_eq_getElem?_getD,List.getD_eq_getElem?_getD,List.getElem?_eq_getElem (by omega),List.getElem?_eq_getElem hj];exact this
theorem gap {l:List Int} (h:l.Pairwise (· < ·)) (hb:∀x∈l,0<=x/\x<65536) {i:Nat} (hi:i<l.length) {x:Int} (hx:x∈l):(x-gI l i)%65536<=(gI l ((i+l.length-1)%l.length)-gI l i)%65536:=by
 obtain ⟨j,hj,rfl⟩:∃j,j<l.length/\gI l j=x:=by
  obtain ⟨j,hj,e⟩:=List.mem_iff_getElem.1 hx;exact ⟨j,hj,by unfold gI;rw [List.getD_eq_getElem?_getD,List.getElem?_eq_getElem hj];exact e⟩
 have b1:=hb _ (Pt hi);have b2:=hb _ (Pt hj);rcases Nat.eq_zero_or_pos i with rfl|h0
 ·have e:(0+l.length-1)%l.length=l.length-1:=by rw [Nat.zero_add];exact Nat.mod_eq_of_lt (by omega)
  rw [e];have b3:=hb _ (Pt (l:=l) (i:=l.length-1) (by omega));have h1:gI l 0<=gI l j:=by
   rcases Nat.eq_zero_or_pos j with rfl|h1
   ·exact Int.le_refl _
   ·exact Int.le_of_lt (Ta h h1 hj)
  have h2:gI l j<=gI l (l.length-1):=by
   rcases Nat.lt_or_ge j (l.length-1) with h2|h2
   ·exact Int.le_of_lt (Ta h h2 (by omega))
   ·rw [show j=l.length-1 by omega];exact Int.le_refl _
  omega
 ·have e:(i+l.length-1)%l.length=i-1:=by rw [show i+l.length-1=i-1+l.length by omega,Nat.add_mod_right];exact Nat.mod_eq_of_lt (by omega)
  rw [e];have b3:=hb _ (Pt (l:=l) (i:=i-1) (by omega));have h1:gI l (i-1)<gI l i:=Ta h (by omega) hi;rcases Nat.lt_or_ge j i with h2|h2
  ·have h3:gI l j<=gI l (i-1):=by
    rcases Nat.lt_or_ge j (i-1) with h3|h3
    ·exact Int.le_of_lt (Ta h h3 (by omega))
    ·rw [show j=i-1 by omega];exact Int.le_refl _
   have h4:gI l j<gI l i:=Ta h h2 hi;omega
  ·have h3:gI l i<=gI l j:=by
    rcases Nat.eq_or_lt_of_le h2 with h3|h3
    ·rw [h3];exact Int.le_refl _
    ·exact Int.le_of_lt (Ta h h3 hj)
   omega
def lift (base:Int) (l:List Int):List Int:=l.map λd=>base+(d-base)%65536
section
variable {F:Nat} {p:List Int} {b w:Int}
theorem A5q (hp:p.length<=1000) (hb:∀x∈p,0<=x/\x<65536) (hbb:0<=b/\b<65536):∀(q N i:Nat) (s:Int),i+q=p.length->q<N->0<=s/\s<=131072*(i:Int)->G3 p b w N s (i:Int)=some ⟨b,w,s+(lift b (p.drop i)).sum,p.length⟩:=by
 intro q
 induction q with
 | zero =>
  intro N i s hi hN hs;obtain ⟨N,rfl⟩:∃N',N=N'+1:=⟨N-1,by omega⟩;show G1 p b w (G3 p b w N) s (i:Int)=_;unfold G1;rw [Au (decide_eq_false (by omega)),List.drop_eq_nil_of_le (by omega)];simp [lift,Lc]
 | succ q ih =>
  intro N i s hi hN hs;obtain ⟨N,rfl⟩:∃N',N=N'+1:=⟨N-1,by omega⟩;have hm:p.getD i 0∈p:=Pt (by omega);have hx:=hb _ hm;have hw:=Int.emod_nonneg (p.getD i 0-b) (show (65536:Int)≠0 by decide);have hw2:=Int.emod_lt_of_pos (p.getD i 0-b) (show (0:Int)<65536 by decide);have:=ih N (i+1) (s+(b+(p.getD i 0-b)%65536)) (by omega) (by omega) (by omega);rw [Int.natCast_add] at this;rw [D9 (i:=i) (by omega) 0];show G1 p b w (G3 p b w N) s (i:Int)=_;unfold G1;rw [B9 (decide_eq_true (by omega)),Ev 0 (by omega),Int.toNat_natCast,ckb (by omega),Rb,ckb (by omega),ckb (by omega),ckb (by omega)];refine Eq.trans this ?_;simp only [lift,List.map_cons,List.sum_cons];rw [Int.add_assoc s]
structure ArcOk (p:List Int) (a:pulse_arc):Prop where
 base:0<=a.base/\a.base<65536
 width:0<=a.width/\a.width<65536
 all:∀d∈p,(d-a.base)%65536<=a.width
 sum:a.sum=(lift a.base p).sum
 count:a.count=p.length
theorem A4a (hF:3000<=F) (hp:p.length<=1000) (hb:∀x∈p,0<=x/\x<65536) {y:List Int} (hy:y.Pairwise (· < ·)) (hm:∀x,x∈y↔x∈p) (hl:y.length<=1000) (h0:p≠[]) :
  ∀(q N i:Nat) (b w:Int),i+q=y.length->q<N->(0<=b/\b<65536)->((i=0/\w=65536)\/(0<=w/\w<65536/\∀d∈p,(d-b)%65536<=w))->∃a,Ex F p y N b w (i:Int)=some a/\ArcOk p a:=by
 have hyb:∀x∈y,0<=x/\x<65536:=λx hx=>hb x ((hm x).1 hx);have hy0:0<y.length:=by
  obtain ⟨x,hx⟩:=List.exists_mem_of_ne_nil p h0;exact List.length_pos_of_mem ((hm x).2 hx)
 intro q
 induction q with
 | zero =>
  intro N i b w hi hN hbb hw;obtain ⟨N,rfl⟩:∃N',N=N'+1:=⟨N-1,by omega⟩;obtain ⟨w1,w2,w3⟩:0<=w/\w<65536/\∀d∈p,(d-b)%65536<=w:=by
   rcases hw with ⟨h1,_⟩|h1
   ·omega
   ·exact h1
  refine ⟨⟨b,w,0+(lift b (p.drop 0)).sum,p.length⟩,?_,⟨hbb,⟨w1,w2⟩,w3,by simp,rfl⟩⟩;show G2 F p y (Ex F p y N) b w (i:Int)=_;unfold G2;rw [Au (decide_eq_false (by omega))];exact A5q hp hb hbb p.length F 0 0 (by omega) (by omega) (by omega)
 | succ q ih =>
  intro N i b w hi hN hbb hw;obtain ⟨N,rfl⟩:∃N',N=N'+1:=⟨N-1,by omega⟩;have hi2:(i+y.length-1)%y.length<y.length:=Nat.mod_lt _ hy0;have b1:=hyb _ (Pt (l:=y) (i:=i) (by omega));have b2:=hyb _ (Pt hi2);have hg:∀d∈p,(d-gI y i)%65536<=(gI y ((i+y.length-1)%y.length)-gI y i)%65536:=λd hd=>gap hy hyb (by omega) ((hm d).2 hd);have hw1:=Int.emod_nonneg (gI y ((i+y.length-1)%y.length)-gI y i) (show (65536:Int)≠0 by decide);have hw2:=Int.emod_lt_of_pos (gI y ((i+y.length-1)%y.length)-gI y i) (show (0:Int)<65536 by decide);have e0:Ex F p y (N+1) b w (i:Int)=G2 F p y (Ex F p y N) b w (i:Int):=rfl;rw [e0];unfold G2 Jj;have e2:y.getD ((i+y.length-1)%y.length) 0=gI y ((i+y.length-1)%y.length):=rfl;have e3:y.getD i 0=gI y i:=rfl;have e1:(i:Int)+(y.length:Int)-1=((i+y.length-1:Nat):Int):=by omega
  rw [B9 (decide_eq_true (by omega)),Ev 0 (by omega),Int.toNat_natCast,ckb (by omega),ckb (by omega),e1,Sv (by omega) (by omega),sb,←Int.natCast_emod,Ev 0 (by omega),Int.toNat_natCast,ckb (by omega),Rb];rw [e2,e3]
  by_cases hc:(gI y ((i+y.length-1)%y.length)-gI y i)%65536<w
  ·rw [B9 (decide_eq_true hc),ckb (by omega)];have:=ih N (i+1) (gI y i) _ (by omega) (by omega) b1 (.inr ⟨hw1,hw2,hg⟩);rw [Int.natCast_add] at this;exact this
  ·rw [Au (decide_eq_false hc),ckb (by omega)];have hw':0<=w/\w<65536/\∀d∈p,(d-b)%65536<=w:=by
    rcases hw with ⟨_,h1⟩|h1
    ·omega
    ·exact h1
   have:=ih N (i+1) b w (by omega) (by omega) hbb (.inr hw');rw [Int.natCast_add] at this;exact this
theorem A8f (hF:3000<=F) (h0:p≠[]) (hp:p.length<=1000) (hb:∀x∈p,0<=x/\x<65536):∃a,Hc F p=some a/\ArcOk p a:=by
 have hlen:(sortI p).length=p.length:=(Qt p).length_eq;have hl2:=A24 (sortI p);obtain ⟨a,h1,h2⟩:=A4a (F:=F) hF hp hb (A3t _ (Rm p)) (λx=>(A3v x _).trans (Qt p).mem_iff) (by omega) h0 (Mh (sortI p)).length F 0 0 65536 (by omega) (by omega) (by omega) (.inl ⟨rfl,rfl⟩);refine ⟨a,?_,h2⟩;unfold Hc Lf Km;rw [if_pos (by omega),sb,if_pos (by omega),sb];exact h1
end
end Go.Proofs.YtkdhnnfokfchpaaGreat
namespace Go.Proofs.YtkdhnnfokfchpaaGreat
open Go Go.RowKit Go.Eng
set_option maxRecDepth 10000
set_option linter.unusedVariables false
set_option linter.unusedSimpArgs false
theorem A1c {b:Int} (hb:0<=b/\b<65536):∀l:List Int,0<=(lift b l).sum/\(lift b l).sum<=131072*(l.length:Int)
 | []=>by simp [lift]
 | x::l=>by
  have ih:=A1c hb l;unfold lift at *;simp only [List.map_cons,List.sum_cons,List.length_cons];omega
theorem Zc {F:Nat} {p:List Int} {a:pulse_arc} (h:ArcOk p a) {e:Int} (he:0<=e/\e<=5000) (hp:p.length<=1000):Br F a e=some (decide (p.length=0)||decide (a.width+4*e<32768)):=by
 have hw:=h.width;have hc:=h.count;unfold Br
 by_cases h0:a.count=0
 ·have e0:(a.count==0)=true:=by simp [h0]
  have e1:decide (p.length=0)=true:=decide_eq_true (by omega);rw [gdF (by rw [e0];rfl),sb,gdF (by rw [e0];rfl),sb,B9 e0,e1];rfl
 ·have e0:(a.count==0)=false:=by simp [h0]
  have e1:decide (p.length=0)=false:=decide_eq_false (by omega);rw [gdT (by rw [e0];rfl),ckb (by omega),gdT (by rw [e0];rfl),ckb (by omega),Au e0,e1];rfl
theorem A1f {F:Nat} {p:List Int} {a:pulse_arc} (h:ArcOk p a) (h0:0<p.length) (hp:p.length<=1000) {S:Int} (hS:0<=S/\S<=802*(p.length:Int)) :
  ∃s j,D2 F a S=some s/\turnB s=true/\(s.Lo-65536*j)*p.length<=a.sum-S/\a.sum+S<=(s.Hi-65536*j)*p.length:=by
 have hb:=A1c h.base p;rw [←h.sum] at hb;have hc:=h.count;have hcp:0<a.count:=by omega
 obtain ⟨lo,hlo⟩:∃lo,(a.sum-S)/a.count=lo:=⟨_,rfl⟩;obtain ⟨hi,hhi⟩:∃hi,-(-(a.sum+S)/a.count)=hi:=⟨_,rfl⟩;have b1:=X2 (x:=a.sum-S) (y:=a.count) (by omega) hcp;have b2:=X2 (x:=-(a.sum+S)) (y:=a.count) (by omega) hcp;have m1:lo*a.count<=a.sum-S:=by rw [←hlo];exact Int.ediv_mul_le _ (by omega)
 have m2:a.sum-S<(lo+1)*a.count:=by rw [←hlo];exact Int.lt_ediv_add_one_mul_self _ hcp
 have m3:(-hi)*a.count<=-(a.sum+S):=by rw [←hhi,Int.neg_neg];exact Int.ediv_mul_le _ (by omega)
 have m4:-(a.sum+S)<(-hi+1)*a.count:=by rw [←hhi,Int.neg_neg];exact Int.lt_ediv_add_one_mul_self _ hcp
 rw [Int.neg_mul] at m3;rw [Int.add_mul,Int.one_mul] at m2;rw [Int.add_mul,Int.neg_mul,Int.one_mul] at m4;have l1:lo<=200000:=by
  apply Int.le_of_mul_le_mul_right _ hcp;have:(200000:Int)*a.count=200000*a.count:=rfl;omega
 have l2:-2000<=lo:=by
  apply Int.le_of_mul_le_mul_right _ hcp;omega
 have l3:hi-lo<=1606:=by
  apply Int.le_of_mul_le_mul_right _ hcp;rw [Int.sub_mul];omega
 have l4:lo<=hi:=by
  apply Int.le_of_mul_le_mul_right _ hcp;omega
 refine ⟨⟨(lo+32768)%65536-32768,(lo+32768)%65536-32768+hi-lo⟩,-((lo+32768)/65536),?_,?_,?_,?_⟩
 ·unfold D2;rw [Au (by simp;omega),ckb (by omega),Ko F (by omega) hcp,sb,ckb (by omega),Pg F (by omega) hcp,sb,hlo,hhi,ckb (by omega),Rb,ckb (by omega),ckb (by omega),ckb (by omega)]
 ·unfold turnB;apply decide_eq_true;simp only;omega
 ·have e:(lo+32768)%65536-32768-65536 * -((lo+32768)/65536)=lo:=by omega
  simp only;rw [e,←hc];exact m1
 ·have e:(lo+32768)%65536-32768+hi-lo-65536 * -((lo+32768)/65536)=hi:=by omega
  simp only;rw [e,←hc];omega
def stP (Q:Nat->Int) (i:Nat):Int:=(Q (i+1)-Q i)%65536
section
variable {Q δ:Nat->Int} {I:List Nat} {D NT e:Int}
theorem A7e (h:∀i∈I,D*(Q (i+1)-Q i)=NT+δ i) (g:Nat->Int) (c:Int) (hg:∀i∈I,g i=Q (i+1)-Q i+c):D*(I.map g).sum=(I.map δ).sum+(NT+D*c)*(I.length:Int):=by
 induction I with
 | nil=>simp
 | cons i I ih =>
  have h1:=h i (List.mem_cons_self ..);have h2:=ih (λj hj=>h j (List.mem_cons_of_mem _ hj)) (λj hj=>hg j (List.mem_cons_of_mem _ hj));rw [List.map_cons,List.sum_cons,List.map_cons,List.sum_cons,hg i (List.mem_cons_self ..),List.length_cons,Int.mul_add,h2,Int.mul_add,h1,Int.natCast_add,Int.mul_add];simp only [Int.natCast_one,Int.mul_one];omega
theorem A3k {a:pulse_arc} (hD:0<D) (he:0<=e) (h:∀i∈I,D*(Q (i+1)-Q i)=NT+δ i/\-(2*e*D)<δ i/\δ i<2*e*D) (h0:I≠[]) (ha:ArcOk (I.map (stP Q)) a) (hw:a.width+4*e<32768) :
  ∃k,D*a.sum=(I.map δ).sum+(NT+D*(65536*k))*(I.length:Int):=by
 have hb:=ha.base;have hx:∀i∈I,(stP Q i-a.base)%65536<=a.width:=λi hi=>ha.all _ (List.mem_map_of_mem hi);obtain ⟨i0,hi0⟩:=List.exists_mem_of_ne_nil I h0;obtain ⟨k,hk⟩:∃k,a.base+(stP Q i0-a.base)%65536=Q (i0+1)-Q i0+65536*k:=⟨(a.base+(stP Q i0-a.base)%65536-(Q (i0+1)-Q i0))/65536,by unfold stP;omega⟩;refine ⟨k,?_⟩;rw [ha.sum];unfold lift;rw [List.map_map];refine A7e (λi hi=>(h i hi).1) _ _ λi hi=>?_;show a.base+(stP Q i-a.base)%65536=_;obtain ⟨h1,h2,h3⟩:=h i hi;obtain ⟨h4,h5,h6⟩:=h i0 hi0;have d1:Q (i+1)-Q i-(Q (i0+1)-Q i0)<4*e:=by
  apply Int.lt_of_mul_lt_mul_left _ (Int.le_of_lt hD);rw [Int.mul_sub,h1,h4,show D*(4*e)=2*e*D+2*e*D by grind];omega
 have d2:Q (i0+1)-Q i0-(Q (i+1)-Q i)<4*e:=by
  apply Int.lt_of_mul_lt_mul_left _ (Int.le_of_lt hD);rw [Int.mul_sub,h1,h4,show D*(4*e)=2*e*D+2*e*D by grind];omega
 have x1:=hx i hi;have x2:=hx i0 hi0;obtain ⟨k',hk'⟩:∃k',a.base+(stP Q i-a.base)%65536=Q (i+1)-Q i+65536*k':=⟨(a.base+(stP Q i-a.base)%65536-(Q (i+1)-Q i))/65536,by unfold stP;omega⟩;have:k'=k:=by omega
 rw [hk',this]
theorem A2m {F:Nat} {a:pulse_arc} (hD:0<D) (he:0<=e) (h:∀i∈I,D*(Q (i+1)-Q i)=NT+δ i/\-(2*e*D)<δ i/\δ i<2*e*D) (h0:I≠[]) (hl:I.length<=1000) (ha:ArcOk (I.map (stP Q)) a) (hw:a.width+4*e<32768)
  {S:Int} (hS:0<=S/\S<=802*(I.length:Int)) (hs:-(D*S)<=(I.map δ).sum/\(I.map δ).sum<=D*S):∃s K,D2 F a S=some s/\turnB s=true/\D*(s.Lo-65536*K)<=NT/\NT<=D*(s.Hi-65536*K):=by
 obtain ⟨k,hk⟩:=A3k hD he h h0 ha hw;have hlp:0<I.length:=List.length_pos_iff.2 h0;have el:(I.map (stP Q)).length=I.length:=List.length_map ..;obtain ⟨s,j,s1,s2,s3,s4⟩:=A1f (F:=F) ha (by omega) (by omega) (S:=S) (by omega);rw [el] at s3 s4;refine ⟨s,j+k,s1,s2,?_,?_⟩
 ·have h1:D*(s.Lo-65536*j)*(I.length:Int)<=(NT+D*(65536*k))*(I.length:Int):=by
   have:=Int.mul_le_mul_of_nonneg_left s3 (Int.le_of_lt hD);rw [Int.mul_sub,hk] at this;have e1:D*((s.Lo-65536*j)*(I.length:Int))=D*(s.Lo-65536*j)*(I.length:Int):=by grind
   omega
  have:=Int.le_of_mul_le_mul_right h1 (by omega);rw [show s.Lo-65536*(j+k)=s.Lo-65536*j-65536*k by omega,Int.mul_sub];omega
 ·have h1:(NT+D*(65536*k))*(I.length:Int)<=D*(s.Hi-65536*j)*(I.length:Int):=by
   have:=Int.mul_le_mul_of_nonneg_left s4 (Int.le_of_lt hD);rw [Int.mul_add,hk] at this;have e1:D*((s.Hi-65536*j)*(I.length:Int))=D*(s.Hi-65536*j)*(I.length:Int):=by grind
   omega
  have:=Int.le_of_mul_le_mul_right h1 (by omega);rw [show s.Hi-65536*(j+k)=s.Hi-65536*j-65536*k by omega,Int.mul_sub];omega
end
def hitq (t:pulse_Train) (w:Int) (s:api_Span) (num den:Int):Prop:=∃k,-64<=k/\k<=64/\(spd t w s k).Lo*den<=num/\num<=(spd t w s k).Hi*den
theorem B00 {t:pulse_Train} {w:Int} {s:api_Span} {num den K:Int} (hden:0<den) (hT:0<us t w) (hL:0<t.Lambda) (hb:-(den*(500*t.Lambda))<=num*us t w/\num*us t w<=den*(500*t.Lambda)) (hs:turnB s=true)
  (h1:den*(500*t.Lambda)*(s.Lo-65536*K)<=num*65536*us t w) (h2:num*65536*us t w<=den*(500*t.Lambda)*(s.Hi-65536*K)):hitq t w s num den:=by
 unfold turnB at hs;have hs:=of_decide_eq_true hs;have hD:0<den*(500*t.Lambda):=Int.mul_pos hden (by omega);have e:num*65536*us t w=65536*(num*us t w):=by grind
 have k1:s.Lo-65536*K<=65536:=by
  apply Int.le_of_mul_le_mul_left _ hD;omega
 have k2:-65536<=s.Hi-65536*K:=by
  apply Int.le_of_mul_le_mul_left _ hD;omega
 refine ⟨-K,by omega,by omega,?_,?_⟩
 ·unfold spd;simp only;have h3:500*t.Lambda*(s.Lo + -K*65536)/(65536*us t w)*(65536*us t w)<=500*t.Lambda*(s.Lo + -K*65536):=Int.ediv_mul_le _ (by omega);generalize 500*t.Lambda*(s.Lo + -K*65536)/(65536*us t w)=z at *;apply Int.le_of_mul_le_mul_right _ (show 0<65536*us t w by omega);have h4:=Int.mul_le_mul_of_nonneg_left h3 (Int.le_of_lt hden);have e1:den*(500*t.Lambda*(s.Lo + -K*65536))=den*(500*t.Lambda)*(s.Lo-65536*K):=by grind
  have e2:z*den*(65536*us t w)=den*(z*(65536*us t w)):=by grind
  have e3:num*(65536*us t w)=num*65536*us t w:=by grind
  omega
 ·unfold spd;simp only;have h3:-(500*t.Lambda*(s.Hi + -K*65536))/(65536*us t w)*(65536*us t w)<=-(500*t.Lambda*(s.Hi + -K*65536)):=Int.ediv_mul_le _ (by omega);generalize -(500*t.Lambda*(s.Hi + -K*65536))/(65536*us t w)=z at *;apply Int.le_of_mul_le_mul_right _ (show 0<65536*us t w by omega);have h4:=Int.mul_le_mul_of_nonneg_left h3 (Int.le_of_lt hden);have e1:den * -(500*t.Lambda*(s.Hi + -K*65536))=-(den*(500*t.Lambda)*(s.Hi-65536*K)):=by grind
  have e2:-z*den*(65536*us t w)=-(den*(z*(65536*us t w))):=by grind
  have e3:num*(65536*us t w)=num*65536*us t w:=by grind
  omega
theorem Yf {t:pulse_Train} {w:Int} {s:api_Span} {num den v:Int} (hden:0<den) (h:hitq t w s num den) (hv:v=num/den\/v=-(-num/den)):hit t w s v:=by
 obtain ⟨k,k1,k2,k3,k4⟩:=h;refine ⟨k,k1,k2,?_,?_⟩
 ·have h1:(spd t w s k).Lo<=num/den:=Int.le_ediv_of_mul_le hden k3;rcases hv with rfl|rfl
  ·exact h1
  ·refine Int.le_trans h1 ?_;have h2:-num/den*den<=-num:=Int.ediv_mul_le _ (by omega);have h3:num/den*den<=num:=Int.ediv_mul_le _ (by omega);apply Int.le_of_mul_le_mul_right _ hden;rw [Int.neg_mul];omega
 ·have h1:-(-num/den)<=(spd t w s k).Hi:=by
   have:-(spd t w s k).Hi<=-num/den:=Int.le_ediv_of_mul_le hden (by rw [Int.neg_mul];omega);omega
  rcases hv with rfl|rfl
  ·refine Int.le_trans ?_ h1;have h2:-num/den*den<=-num:=Int.ediv_mul_le _ (by omega);have h3:num/den*den<=num:=Int.ediv_mul_le _ (by omega);apply Int.le_of_mul_le_mul_right _ hden;rw [Int.neg_mul];omega
  ·exact h1
end Go.Proofs.YtkdhnnfokfchpaaGreat
namespace Go.Proofs.YtkdhnnfokfchpaaGreat
open Go Go.RowKit Go.Eng
set_option maxRecDepth 10000
set_option linter.unusedVariables false
set_option linter.unusedSimpArgs false
def wh (k:Int) (n i:Nat):Int:=if k=2 then (if n/2<=i then 1 else 0) else if k=3 then ((i%2:Nat):Int) else 0
def tau (t:pulse_Train) (n:Nat):Nat->Int
 | 0=>0
 | i+1=>tau t n i+us t (wh t.Kind n i)
structure TrB (t:pulse_Train) (n:Nat):Prop where
 kd:t.Kind=1\/t.Kind=2\/t.Kind=3
 cn:n=4\/n=6\/n=8\/n=10\/n=12
 ct:t.Count=(n:Int)
 la:60000<=t.Lambda/\t.Lambda<=111000
 fi:400<=t.First/\t.First<=1420
 se:t.Kind=1/\t.Second=0\/t.Kind≠1/\t.First<t.Second/\t.Second<=2441
theorem B0p (k:Int) (n i:Nat):wh k n i=0\/wh k n i=1/\k≠1:=by
 unfold wh
 split
 ·split<;>omega
 ·split<;>omega
section
variable {t:pulse_Train} {n:Nat}
theorem TrB.ok (h:TrB t n):Ms t=0:=by
 have hk:=h.kd;have hc:=h.cn;have h2:=h.ct;have h3:=h.la;have h4:=h.fi;have h5:=h.se;unfold Ms;rw [if_neg (by omega),if_pos];unfold Ra;apply decide_eq_true;refine ⟨by omega,by omega,by omega,by omega,by omega,?_⟩;rcases hk with hk|hk|hk
 ·left;omega
 ·right;left;refine ⟨hk,?_,by omega,by omega,by omega,by omega⟩;rw [h2];rcases hc with rfl|rfl|rfl|rfl|rfl<;>rfl
 ·right;right;omega
theorem TrB.us (h:TrB t n) (i:Nat):400<=us t (wh t.Kind n i)/\us t (wh t.Kind n i)<=2441:=by
 have h4:=h.fi;have h5:=h.se;unfold Go.Proofs.YtkdhnnfokfchpaaGreat.us;rcases B0p t.Kind n i with e|⟨e,e2⟩<;>rw [e]
 ·simp;omega
 ·simp;omega
theorem A5s (h:TrB t n):∀i:Nat,0<=tau t n i/\tau t n i<=2441*(i:Int)
 | 0=>by simp [tau]
 | i+1=>by
  have:=A5s h i;have:=h.us i;unfold tau;omega
def slp (sl:List Int) (e fr:Int) (i:Nat):Int:=if 0<sl.length then sl.getD ((fr.toNat+i)%sl.length) 0%(2*e-1)-(e-1) else 0
def Qf (t:pulse_Train) (n:Nat) (num den e:Int) (sl:List Int) (fr:Int) (i:Nat):Int:=num*65536*tau t n i/(den*(500*t.Lambda))+slp sl e fr i
def smB (L:Int) (Q:Nat->Int) (i:Nat):pulse_Sample:=⟨L,Q i%65536,L,Q i%65536⟩
theorem A5l {sl:List Int} {e fr:Int} (he:1<=e) (i:Nat):-(e-1)<=slp sl e fr i/\slp sl e fr i<=e-1:=by
 unfold slp
 split
 ·have h1:=Int.emod_nonneg (sl.getD ((fr.toNat+i)%sl.length) 0) (show 2*e-1≠0 by omega);have h2:=Int.emod_lt_of_pos (sl.getD ((fr.toNat+i)%sl.length) 0) (show 0<2*e-1 by omega);omega
 ·omega
theorem A61 {num den e fr:Int} {sl:List Int} (h:TrB t n) (hd:0<den) (he:1<=e) (i:Nat) :
  -(den*(500*t.Lambda)*e)<den*(500*t.Lambda)*Qf t n num den e sl fr i-num*65536*tau t n i/\den*(500*t.Lambda)*Qf t n num den e sl fr i-num*65536*tau t n i<=den*(500*t.Lambda)*(e-1):=by
 have hD:0<den*(500*t.Lambda):=Int.mul_pos hd (by have:=h.la;omega);unfold Qf;generalize num*65536*tau t n i=N;generalize den*(500*t.Lambda)=D at *;have hs:=A5l (sl:=sl) (fr:=fr) he i;have h1:=Int.mul_ediv_add_emod N D;have h2:=Int.emod_nonneg N (show D≠0 by omega);have h3:=Int.emod_lt_of_pos N hD;have h4:=Int.mul_le_mul_of_nonneg_left hs.1 (Int.le_of_lt hD);have h5:=Int.mul_le_mul_of_nonneg_left hs.2 (Int.le_of_lt hD);rw [Int.mul_neg,Int.mul_sub] at h4;rw [Int.mul_sub] at h5;rw [Int.mul_add,Int.mul_sub];omega
theorem Zw {F:Nat} {x y:Int} (hx:-4000000000000000000<=x/\x<=4000000000000000000) (hy:0<y):Mn F x y=some (x/y):=by
 obtain ⟨h,hb⟩:=Xe hx hy;unfold Mn Ht;rw [h,sb,if_neg (by omega),sb,S7 x y hy]
 by_cases hc:x.tmod y<0
 ·rw [if_pos hc,B9 (decide_eq_true hc),ckb (by omega)]
 ·rw [if_neg hc,Au (decide_eq_false hc)]
theorem A7g (x:Int):-65536<x.tmod 65536/\x.tmod 65536<65536:=by
 have h2:=Int.tmod_lt_of_pos x (show (0:Int)<65536 by decide);have:=Int.tmod_lt_of_pos (-x) (show (0:Int)<65536 by decide);rw [Int.neg_tmod] at this;omega
theorem A7i (x:Int):(x.tmod 65536+65536).tmod 65536=x%65536:=by
 have h1:=Int.tmod_add_mul_tdiv x 65536;have h2:=Int.tmod_lt_of_pos x (show (0:Int)<65536 by decide);have h3:-65536<x.tmod 65536:=by
  have:=Int.tmod_lt_of_pos (-x) (show (0:Int)<65536 by decide);rw [Int.neg_tmod] at this;omega
 rw [Int.tmod_eq_emod_of_nonneg (by omega)];omega
theorem A7z (x:Int):Ht x 65536=some (x.tmod 65536):=rfl
section
variable {num den L e fr:Int} {sl:List Int} {F:Nat}
theorem Yr (h:TrB t n) (hd:1<=den/\den<=10000) (hn:-(4096*den)<=num/\num<=4096*den) (he:1<=e/\e<=401) (hf:0<=fr/\fr<=1000) (hs:∀x∈sl,0<=x/\x<=65535) :
  ∀(q N i:Nat),i+q=n->q<N->Fl F t num den L e sl fr N ((List.range i).map (smB L (Qf t n num den e sl fr))) (tau t n i) (i:Int)=some ((List.range n).map (smB L (Qf t n num den e sl fr))):=by
 have hc:=h.cn;have ht:=h.ct;have hl:=h.la;have hk:=h.kd;have hfi:=h.fi;have hse:=h.se;intro q
 induction q with
 | zero =>
  intro N i hi hN;obtain ⟨N,rfl⟩:∃N',N=N'+1:=⟨N-1,by omega⟩;show Gr F t num den L e sl fr (Fl F t num den L e sl fr N) ((List.range i).map (smB L (Qf t n num den e sl fr))) (tau t n i) (i:Int)=_;unfold Gr Mc;rw [Au (decide_eq_false (by omega)),show i=n by omega]
 | succ q ih =>
  intro N i hi hN;obtain ⟨N,rfl⟩:∃N',N=N'+1:=⟨N-1,by omega⟩;have ht1:=A5s h i;have hus:=h.us i;have hx:-(4096*10000*65536*30000)<=num*65536*tau t n i/\num*65536*tau t n i<=4096*10000*65536*30000:=by
   have h1:num*65536*tau t n i<=4096*10000*65536*tau t n i:=Int.mul_le_mul_of_nonneg_right (by omega) ht1.1;have h2:-(4096*10000*65536)*tau t n i<=num*65536*tau t n i:=Int.mul_le_mul_of_nonneg_right (by omega) ht1.1;omega
  have hD:den*500*t.Lambda=den*(500*t.Lambda):=Int.mul_assoc ..;have hDp:0<den*(500*t.Lambda):=Int.mul_pos (by omega) (by omega);have hDb:den*(500*t.Lambda)<=10000*(500*111000):=Int.mul_le_mul (by omega) (by omega) (by omega) (by omega);obtain ⟨y,hy⟩:∃y,num*65536*tau t n i/(den*(500*t.Lambda))=y:=⟨_,rfl⟩;have hyb:=X2 (x:=num*65536*tau t n i) (y:=den*(500*t.Lambda)) (by omega) hDp;rw [hy] at hyb;have hsb:=A5l (sl:=sl) (fr:=fr) (e:=e) he.1 i;have hQ:Qf t n num den e sl fr i=y+slp sl e fr i:=by unfold Qf;rw [hy]
  have key:J0 t L ((List.range i).map (smB L (Qf t n num den e sl fr))) (tau t n i) (i:Int) (Fl F t num den L e sl fr N) (y+slp sl e fr i)=some ((List.range n).map (smB L (Qf t n num den e sl fr))):=by
   have h0:=ih N (i+1) (by omega) (by omega);rw [Int.natCast_add,List.range_succ,List.map_append] at h0;have eu:tau t n (i+1)=tau t n i+us t (wh t.Kind n i):=rfl;rw [eu] at h0;unfold J0 Kg;rw [A7z,sb,ckb (by have:=A7g (y+slp sl e fr i);omega),A7z,sb,A7i,←hQ,Ky (by simp;omega)];have hlst:List.map (smB L (Qf t n num den e sl fr)) [i]=[pulse_Sample.mk L (Qf t n num den e sl fr i%65536) L (Qf t n num den e sl fr i%65536)]:=rfl;rw [hlst] at h0;unfold wh at h0 hus;rcases hk with hk|hk|hk
   ·have e1:(t.Kind==2)=false:=by simp [hk]
    have e2:(t.Kind==3)=false:=by simp [hk]
    rw [if_neg (by omega),if_neg (by omega)] at h0 hus;rw [e1,e2,gdF (g:=false==true&&true) rfl,sb,gdF (g:=false==true&&_) rfl,sb,Au (by rfl)];unfold us at h0 hus;rw [if_pos rfl] at h0 hus;rw [ckb (by omega),ckb (by omega)];exact h0
   ·have e1:(t.Kind==2)=true:=by simp [hk]
    have e2:(t.Kind==3)=false:=by simp [hk]
    have e3:Pd t.Count 2=some ((n/2:Nat):Int):=by
     rw [ht];rcases hc with rfl|rfl|rfl|rfl|rfl<;>rfl
    rw [if_pos hk] at h0 hus;rw [e1,e2,gdT (g:=true==true&&true) rfl,e3,sb,gdF (g:=false==true&&_) rfl,sb]
    by_cases hh:n/2<=i
    ·rw [if_pos hh] at h0 hus;rw [B9 (by rw [decide_eq_true (show (i:Int)>=((n/2:Nat):Int) by omega)];rfl)];unfold us at h0 hus;rw [if_neg (by omega)] at h0 hus;rw [ckb (by omega),ckb (by omega)];exact h0
    ·rw [if_neg hh] at h0 hus;rw [Au (by rw [decide_eq_false (show ¬(i:Int)>=((n/2:Nat):Int) by omega)];rfl)];unfold us at h0 hus;rw [if_pos rfl] at h0 hus;rw [ckb (by omega),ckb (by omega)];exact h0
   ·have e1:(t.Kind==2)=false:=by simp [hk]
    have e2:(t.Kind==3)=true:=by simp [hk]
    have e3:Ht (i:Int) 2=some ((i%2:Nat):Int):=by rw [Sv (by omega) (by omega)];rfl
    rw [if_neg (by omega),if_pos hk] at h0 hus;rw [e1,e2,gdF (g:=false==true&&true) rfl,sb,gdT (g:=true==true&&((bif false then _ else false)==false&&true)) rfl,e3,sb];rcases Nat.mod_two_eq_zero_or_one i with hm|hm<;>rw [hm] at h0 hus ⊢
    ·rw [Au (by rfl)];unfold us at h0 hus;rw [if_pos (by decide)] at h0 hus;rw [ckb (by omega),ckb (by omega)];exact h0
    ·rw [B9 (by rfl)];unfold us at h0 hus;rw [if_neg (by decide)] at h0 hus;rw [ckb (by omega),ckb (by omega)];exact h0
  show Gr F t num den L e sl fr (Fl F t num den L e sl fr N) ((List.range i).map (smB L (Qf t n num den e sl fr))) (tau t n i) (i:Int)=_;unfold Gr;rw [B9 (decide_eq_true (by omega)),ckb (by omega),ckb (by omega),ckb (by omega),hD,ckb (by omega),Zw (by omega) hDp,sb,hy]
  by_cases h0:0<sl.length
  ·have em:Ht (fr+(i:Int)) (sl.length:Int)=some (((fr.toNat+i)%sl.length:Nat):Int):=by
    rw [Sv (by omega) (by omega),Int.natCast_emod,Int.natCast_add,Int.toNat_of_nonneg hf.1]
   have hlt:(fr.toNat+i)%sl.length<sl.length:=Nat.mod_lt _ h0;have hmem:sl.getD ((fr.toNat+i)%sl.length) 0∈sl:=Pt hlt;have hv:=hs _ hmem;have es:slp sl e fr i=sl.getD ((fr.toNat+i)%sl.length) 0%(2*e-1)-(e-1):=by unfold slp;rw [if_pos h0]
   have r1:=Int.emod_nonneg (sl.getD ((fr.toNat+i)%sl.length) 0) (show 2*e-1≠0 by omega);have r2:=Int.emod_lt_of_pos (sl.getD ((fr.toNat+i)%sl.length) 0) (show 0<2*e-1 by omega);rw [B9 (decide_eq_true (by omega)),ckb (by omega),em,sb,Ev 0 (by omega),Int.toNat_natCast,ckb (by omega),ckb (by omega),ckb (by omega),Sv hv.1 (by omega),sb,ckb (by omega),ckb (by omega),ckb (by omega),←es];exact key
  ·have es:slp sl e fr i=0:=by unfold slp;rw [if_neg h0]
   rw [Au (decide_eq_false (by omega))];rw [es,Int.add_zero] at key;exact key
theorem A2v (h:TrB t n) (hF:3000<=F) (hd:1<=den/\den<=10000) (hn:-(4096*den)<=num/\num<=4096*den) (he:1<=e/\e<=401) (hf:0<=fr/\fr<=1000) (hs:∀x∈sl,0<=x/\x<=65535) :
  Q3 F t num den L e sl fr=some ((List.range n).map (smB L (Qf t n num den e sl fr))):=Yr h hd hn he hf hs n F 0 (by omega) (by have:=h.cn;omega)
end
theorem A35 {L:Int} {Q:Nat->Int} (hL:0<=L/\L<=1000) (hn:n<=1000):∀(q N i:Nat),i+q=n->q<N->Do ((List.range n).map (smB L Q)) 0 N ((i:Int)*(L*L)) ((i:Int)*(L*L)) ((i:Int)*(L*L)) (i:Int)=some ((n:Int)*(L*L),(n:Int)*(L*L),(n:Int)*(L*L)):=by
 have hLL:0<=L*L/\L*L<=1000000:=⟨Int.mul_nonneg hL.1 hL.1,Int.mul_le_mul hL.2 hL.2 hL.1 (by omega)⟩;intro q
 induction q with
 | zero =>
  intro N i hi hN;obtain ⟨N,rfl⟩:∃N',N=N'+1:=⟨N-1,by omega⟩;show Dn _ 0 (Do _ 0 N) _ _ _ (i:Int)=_;unfold Dn;rw [Au (decide_eq_false (by rw [List.length_map,List.length_range];omega)),show i=n by omega]
 | succ q ih =>
  intro N i hi hN;obtain ⟨N,rfl⟩:∃N',N=N'+1:=⟨N-1,by omega⟩;show Dn _ 0 (Do _ 0 N) _ _ _ (i:Int)=_;unfold Dn;have hb:0<=(i:Int)*(L*L)/\(i:Int)*(L*L)<=1000*1000000:=⟨Int.mul_nonneg (by omega) hLL.1,Int.mul_le_mul (by omega) hLL.2 hLL.1 (by omega)⟩;have e1:(if L>0 then L else 0)=L:=by split<;>omega
  rw [B9 (decide_eq_true (by rw [List.length_map,List.length_range];omega)),Sj (by omega:i<n)];simp only [smB,Int.add_zero];rw [ckb (by omega),ckb (by omega),e1,ckb (by omega),ckb (by omega),ckb (by omega),ckb (by omega),ckb (by omega),ckb (by omega),ckb (by omega)];have:=ih N (i+1) (by omega) (by omega);rw [Int.natCast_add,Int.add_mul,Int.natCast_one,Int.one_mul] at this;exact this
theorem A7f {F:Nat} (hF:3000<=F) {L:Int} {Q:Nat->Int} (hL:0<=L/\L<=1000) (hn:n<=1000):Ji F (0,0,0) ((List.range n).map (smB L Q)) 0=some ((n:Int)*(L*L),(n:Int)*(L*L),(n:Int)*(L*L)):=by
 have:=A35 (Q:=Q) hL hn n F 0 (by omega) (by omega);simp only [Int.natCast_zero,Int.zero_mul] at this;exact this
def idP (k:Int) (n:Nat) (w:Int) (i:Nat):Bool:=!(decide (k=2/\i+1=n/2))&&decide (wh k n i=w)
def idx (k:Int) (n:Nat) (w:Int):List Nat:=(List.range' 0 (n-1)).filter (idP k n w)
theorem A0n {L:Int} {Q:Nat->Int} (h:TrB t n):∀(q N i:Nat) (A B:List Int),i+q=n-1->q<N->A.length+q<=1000->B.length+q<=1000 ->
  Ba Bb ((List.range n).map (smB L Q)) t ((List.range' 1 (n-1)).map (smB L Q)) N (i:Int) (A,B,0)=some ((A++((List.range' i q).filter (idP t.Kind n 0)).map (stP Q),B++((List.range' i q).filter (idP t.Kind n 1)).map (stP Q),0),true):=by
 have hc:=h.cn;have ht:=h.ct;have hk:=h.kd;intro q
 induction q with
 | zero =>
  intro N i A B hi hN hA hB;obtain ⟨N,rfl⟩:∃N',N=N'+1:=⟨N-1,by omega⟩;show C7 Bb _ t _ (Ba Bb _ t _ N) (i:Int) (A,B,0)=_;unfold C7;rw [Au (decide_eq_false (by rw [List.length_map,List.length_range'];omega))];simp
 | succ q ih =>
  intro N i A B hi hN hA hB;obtain ⟨N,rfl⟩:∃N',N=N'+1:=⟨N-1,by omega⟩;show C7 Bb _ t _ (Ba Bb _ t _ N) (i:Int) (A,B,0)=_;unfold C7;have el:((((List.range n).map (smB L Q)).length:Nat):Int)=(n:Int):=by rw [List.length_map,List.length_range]
  have eh:Pd (n:Int) 2=some ((n/2:Nat):Int):=by
   rcases hc with rfl|rfl|rfl|rfl|rfl<;>rfl
  have eg:((List.range' 1 (n-1)).map (smB L Q)).getD i default=smB L Q (i+1):=by
   rw [List.getD_eq_getElem?_getD,List.getElem?_map,List.getElem?_range' (by omega),Nat.one_mul,Nat.add_comm];rfl
  rw [B9 (decide_eq_true (by rw [List.length_map,List.length_range'];omega)),Ev default (by rw [List.length_map,List.length_range'];omega),Int.toNat_natCast,eg,el,eh];have ewr:Bh ((smB L Q (i+1)).P-(smB L Q i).P)=stP Q i:=by
   rw [Rb];unfold smB stP;simp only;omega
  have hbP:∀j,0<=(smB L Q j).P/\(smB L Q j).P<65536:=λj=>⟨Int.emod_nonneg _ (by decide),Int.emod_lt_of_pos _ (by decide)⟩;have hb1:=hbP (i+1);have hb2:=hbP i;have hK2:∀s,Cn (i:Int) (Ba Bb ((List.range n).map (smB L Q)) t ((List.range' 1 (n-1)).map (smB L Q)) N) s=Ba Bb ((List.range n).map (smB L Q)) t ((List.range' 1 (n-1)).map (smB L Q)) N ((i+1:Nat):Int) s:=by
   intro s;unfold Cn;rw [ckb (by omega)];rfl
  rw [List.range'_succ];have k0:idP t.Kind n 0 i=true->idP t.Kind n 1 i=false->Bl Bb ((List.range n).map (smB L Q)) (i:Int) (A,B,0) (Ba Bb ((List.range n).map (smB L Q)) t ((List.range' 1 (n-1)).map (smB L Q)) N) (smB L Q (i+1)) 0=some ((A++((i::List.range' (i+1) q).filter (idP t.Kind n 0)).map (stP Q),B++((i::List.range' (i+1) q).filter (idP t.Kind n 1)).map (stP Q),0),true):=by
   intro h1 h2;unfold Bl;rw [Sj (by omega:i<n),ckb (by omega),ewr];have hY:Bb (A,B,0) (0,stP Q i)=some ((A++[stP Q i],B,0),true):=by
    unfold Bb;rw [B9 (by rfl),Ky (by simp;omega)]
   rw [hY,sb,B9 (by rfl),hK2,List.filter_cons_of_pos h1,List.filter_cons_of_neg (by simp [h2]),List.map_cons];have:=ih N (i+1) (A++[stP Q i]) B (by omega) (by omega) (by simp;omega) (by omega);rw [List.append_assoc] at this;exact this
  have k1:idP t.Kind n 0 i=false->idP t.Kind n 1 i=true->Bl Bb ((List.range n).map (smB L Q)) (i:Int) (A,B,0) (Ba Bb ((List.range n).map (smB L Q)) t ((List.range' 1 (n-1)).map (smB L Q)) N) (smB L Q (i+1)) 1=some ((A++((i::List.range' (i+1) q).filter (idP t.Kind n 0)).map (stP Q),B++((i::List.range' (i+1) q).filter (idP t.Kind n 1)).map (stP Q),0),true):=by
   intro h1 h2;unfold Bl;rw [Sj (by omega:i<n),ckb (by omega),ewr];have hY:Bb (A,B,0) (1,stP Q i)=some ((A,B++[stP Q i],0),true):=by
    unfold Bb;rw [Au (by rfl),B9 (by rfl),Ky (by simp;omega)]
   rw [hY,sb,B9 (by rfl),hK2,List.filter_cons_of_neg (by simp [h1]),List.filter_cons_of_pos h2,List.map_cons];have:=ih N (i+1) A (B++[stP Q i]) (by omega) (by omega) (by omega) (by simp;omega);rw [List.append_assoc] at this;exact this
  have idv:∀w,idP t.Kind n w i=(!(decide (t.Kind=2/\i+1=n/2))&&decide (wh t.Kind n i=w)):=λw=>rfl;rcases hk with hk|hk|hk
  ·have hw:wh t.Kind n i=0:=by unfold wh;rw [if_neg (by omega),if_neg (by omega)]
   rw [Au (by simp [hk]),Au (by simp [hk])];exact k0 (by rw [idv,hw];simp [hk]) (by rw [idv,hw];simp)
  ·rw [B9 (by simp [hk]),ckb (by omega),sb]
   by_cases hm:i+1=n/2
   ·rw [B9 (by simp;omega),hK2];have:=ih N (i+1) A B (by omega) (by omega) (by omega) (by omega);rw [this,List.filter_cons_of_neg (by rw [idv];simp [hk,hm]),List.filter_cons_of_neg (by rw [idv];simp [hk,hm])]
   ·rw [Au (by simp;omega),sb]
    by_cases hh:n/2<=i
    ·have hw:wh t.Kind n i=1:=by unfold wh;rw [if_pos (by omega),if_pos hh]
     rw [B9 (decide_eq_true (by omega))];exact k1 (by rw [idv,hw];simp) (by rw [idv,hw];simp [hm])
    ·have hw:wh t.Kind n i=0:=by unfold wh;rw [if_pos (by omega),if_neg hh]
     rw [Au (decide_eq_false (by omega))];exact k0 (by rw [idv,hw];simp [hm]) (by rw [idv,hw];simp)
  ·have hw:wh t.Kind n i=((i%2:Nat):Int):=by unfold wh;rw [if_neg (by omega),if_pos (by omega)]
   have e3:Ht (i:Int) 2=some ((i%2:Nat):Int):=by rw [Sv (by omega) (by omega)];rfl
   rw [Au (by simp [hk]),B9 (by simp [hk]),e3,sb];rcases Nat.mod_two_eq_zero_or_one i with hm|hm<;>rw [hm] at hw ⊢
   ·exact k0 (by rw [idv,hw];simp [hk]) (by rw [idv,hw];simp)
   ·exact k1 (by rw [idv,hw];simp) (by rw [idv,hw];simp [hk])
theorem A5o {F:Nat} (hF:3000<=F) {L:Int} {Q:Nat->Int} (h:TrB t n):Fe F ((List.range n).map (smB L Q)) t Bb (([]:List Int),([]:List Int),0)=some (((idx t.Kind n 0).map (stP Q),(idx t.Kind n 1).map (stP Q),0),true):=by
 have hc:=h.cn;have e:Ud ((List.range n).map (smB L Q)) 1 ((((List.range n).map (smB L Q)).length:Nat):Int)=some ((List.range' 1 (n-1)).map (smB L Q)):=by
  unfold Ud;rw [List.length_map,List.length_range,if_pos (by omega),←List.map_drop,←List.map_take,List.take_of_length_le (by simp)]
  congr 2
  rcases hc with rfl|rfl|rfl|rfl|rfl<;>rfl
 unfold Fe;rw [e,sb];exact A0n h (n-1) F 0 [] [] (by omega) (by omega) (by simp;omega) (by simp;omega)
end
end Go.Proofs.YtkdhnnfokfchpaaGreat
namespace Go.Proofs.YtkdhnnfokfchpaaGreat
open Go Go.RowKit Go.Eng
set_option maxRecDepth 10000
set_option linter.unusedVariables false
set_option linter.unusedSimpArgs false
theorem A6j {k:Int} {n:Nat} {w:Int} (hk:k=1\/k=2) (hn:n=4\/n=6\/n=8\/n=10\/n=12) (hw:w=0\/w=1/\k≠1):∃a m,idx k n w=List.range' a m:=by
 rcases hw with rfl|⟨rfl,hw⟩
 ·rcases hk with rfl|rfl
  ·refine ⟨0,n-1,?_⟩;rcases hn with rfl|rfl|rfl|rfl|rfl<;>decide
  ·refine ⟨0,n/2-1,?_⟩;rcases hn with rfl|rfl|rfl|rfl|rfl<;>decide
 ·rcases hk with rfl|rfl
  ·omega
  ·refine ⟨n/2,n/2-1,?_⟩;rcases hn with rfl|rfl|rfl|rfl|rfl<;>decide
theorem Zz {k:Int} {n:Nat} {w:Int} (hk:k=1\/k=2\/k=3) (hn:n=4\/n=6\/n=8\/n=10\/n=12) (hw:w=0\/w=1/\k≠1):idx k n w≠[]:=by
 rcases hw with rfl|⟨rfl,hw⟩
 ·rcases hk with rfl|rfl|rfl<;>rcases hn with rfl|rfl|rfl|rfl|rfl<;>decide
 ·rcases hk with rfl|rfl|rfl
  ·omega
  all_goals rcases hn with rfl|rfl|rfl|rfl|rfl<;>decide
theorem A6i {n:Nat} (hn:n=4\/n=6\/n=8\/n=10\/n=12):idx 1 n 1=[]:=by
 rcases hn with rfl|rfl|rfl|rfl|rfl<;>decide
theorem Sn (k:Int) (n:Nat) (w:Int):(idx k n w).length<=n:=by
 unfold idx;have:=List.length_filter_le (idP k n w) (List.range' 0 (n-1));rw [List.length_range'] at this;omega
theorem A8n {k:Int} {n:Nat} {w:Int} {i:Nat} (h:i∈idx k n w):wh k n i=w:=by
 have:=(List.mem_filter.1 h).2;unfold idP at this;simp only [Bool.and_eq_true,decide_eq_true_eq] at this;exact this.2
theorem A5p {δ:Nat->Int} {c:Int}:∀I:List Nat,(∀i∈I,-c<=δ i/\δ i<=c)->-(c*(I.length:Int))<=(I.map δ).sum/\(I.map δ).sum<=c*(I.length:Int)
 | [],_=>by simp
 | i::I,h=>by
  have h1:=h i (List.mem_cons_self ..);have h2:=A5p I λj hj=>h j (List.mem_cons_of_mem _ hj);rw [List.map_cons,List.sum_cons,List.length_cons,Int.natCast_add,Int.mul_add,Int.natCast_one,Int.mul_one];omega
theorem A1r (f:Nat->Int):∀m a:Nat,((List.range' a m).map (λi=>f (i+1)-f i)).sum=f (a+m)-f a
 | 0,a=>by simp
 | m+1,a=>by
  rw [List.range'_succ,List.map_cons,List.sum_cons,A1r f m (a+1),show a+1+m=a+(m+1) by omega];omega
section
variable {t:pulse_Train} {n:Nat} {num den L e fr:Int} {sl:List Int} {F:Nat}
theorem A0q (h:TrB t n) {w:Int} (hw:w=0\/w=1/\t.Kind≠1):400<=us t w/\us t w<=2441:=by
 have h4:=h.fi;have h5:=h.se;unfold us;rcases hw with rfl|⟨rfl,e2⟩
 ·simp;omega
 ·simp;omega
theorem A4w (h:TrB t n) (hd:1<=den/\den<=10000) (hn:-(4096*den)<=num/\num<=4096*den) (he:1<=e/\e<=401) {w:Int} (hw:w=0\/w=1/\t.Kind≠1) {a:pulse_arc} (ha:ArcOk ((idx t.Kind n w).map (stP (Qf t n num den e sl fr))) a) (hwid:a.width+4*e<32768) :
  ∃s,D2 F a (if t.Kind=3 then 2*e*a.count else 2*e)=some s/\turnB s=true/\hitq t w s num den:=by
 have hu:=A0q h hw;have hla:=h.la;have hDp:0<den*(500*t.Lambda):=Int.mul_pos (by omega) (by omega);have hne:=Zz h.kd h.cn hw;have hlen:=Sn t.Kind n w;have hc:a.count=((idx t.Kind n w).length:Int):=by rw [ha.count,List.length_map]
 have hlp:0<(idx t.Kind n w).length:=List.length_pos_iff.2 hne;have hcn:=h.cn;have hb:-(den*(500*t.Lambda))<=num*us t w/\num*us t w<=den*(500*t.Lambda):=by
  have b1:num*us t w<=4096*den*us t w:=Int.mul_le_mul_of_nonneg_right hn.2 (by omega);have b2:-(4096*den)*us t w<=num*us t w:=Int.mul_le_mul_of_nonneg_right hn.1 (by omega);have b3:4096*den*us t w<=4096*den*2441:=Int.mul_le_mul_of_nonneg_left hu.2 (by omega);have b4:den*30000000<=den*(500*t.Lambda):=Int.mul_le_mul_of_nonneg_left (by omega) (by omega);rw [Int.neg_mul] at b2;omega
 obtain ⟨ε,hε⟩:∃ε:Nat->Int,∀i,ε i=den*(500*t.Lambda)*Qf t n num den e sl fr i-num*65536*tau t n i:=⟨λi=>_,λi=>rfl⟩;have hεb:∀i,-(den*(500*t.Lambda)*e)<ε i/\ε i<=den*(500*t.Lambda)*(e-1):=λi=>by rw [hε];exact A61 h (by omega) he.1 i
 have hDe:den*(500*t.Lambda)*(e-1)=den*(500*t.Lambda)*e-den*(500*t.Lambda):=by rw [Int.mul_sub,Int.mul_one]
 have hDe2:2*e*(den*(500*t.Lambda))=2*(den*(500*t.Lambda)*e):=by grind
 have hbase:∀i∈idx t.Kind n w,den*(500*t.Lambda)*(Qf t n num den e sl fr (i+1)-Qf t n num den e sl fr i)=num*65536*us t w+(λi=>ε (i+1)-ε i) i/\-(2*e*(den*(500*t.Lambda)))<(λi=>ε (i+1)-ε i) i/\(λi=>ε (i+1)-ε i) i<2*e*(den*(500*t.Lambda)):=by
  intro i hi;have hwh:=A8n hi;have e1:=hε i;have e2:=hε (i+1);have b1:=hεb i;have b2:=hεb (i+1);have e3:tau t n (i+1)=tau t n i+us t w:=by rw [←hwh];rfl
  simp only;refine ⟨?_,by omega,by omega⟩;rw [e3,Int.mul_add] at e2;rw [Int.mul_sub];omega
 obtain ⟨S,hS⟩:∃S,(if t.Kind=3 then 2*e*a.count else 2*e)=S:=⟨_,rfl⟩;rw [hS];have hfin:(0<=S/\S<=802*((idx t.Kind n w).length:Int))/\-(den*(500*t.Lambda)*S)<=((idx t.Kind n w).map λi=>ε (i+1)-ε i).sum/\((idx t.Kind n w).map λi=>ε (i+1)-ε i).sum<=den*(500*t.Lambda)*S:=by
  by_cases h3:t.Kind=3
  ·rw [if_pos h3,hc] at hS;subst hS;refine ⟨⟨Int.mul_nonneg (by omega) (by omega),Int.mul_le_mul_of_nonneg_right (by omega) (by omega)⟩,?_⟩;have:=A5p (c:=2*e*(den*(500*t.Lambda))) (idx t.Kind n w) λi hi=>by have:=(hbase i hi).2;exact ⟨Int.le_of_lt this.1,Int.le_of_lt this.2⟩
   have e9:den*(500*t.Lambda)*(2*e*((idx t.Kind n w).length:Int))=2*e*(den*(500*t.Lambda))*((idx t.Kind n w).length:Int):=by grind
   rw [e9];exact this
  ·rw [if_neg h3] at hS;subst hS;have hk:=h.kd;obtain ⟨b,m,hr⟩:=A6j (k:=t.Kind) (n:=n) (by omega) h.cn hw;refine ⟨⟨by omega,by omega⟩,?_⟩;rw [hr,A1r];have b1:=hεb b;have b2:=hεb (b+m);rw [show den*(500*t.Lambda)*(2*e)=2*(den*(500*t.Lambda)*e) by grind];omega
 obtain ⟨s,K,s1,s2,s3,s4⟩:=A2m (F:=F) hDp (by omega) hbase hne (by omega) ha hwid hfin.1 hfin.2;exact ⟨s,s1,s2,B00 (by omega) (by omega) (by omega) hb s2 s3 s4⟩
theorem Ww (hF:3000<=F) {p:List Int} (hp:p.length<=1000) (hb:∀x∈p,0<=x/\x<65536) (he:1<=e/\e<=401) :
  ∃a g,(p.length=0->a=⟨0,0,0,0⟩)/\(0<p.length->Hc F p=some a/\ArcOk p a)/\Br F a e=some g/\(0<p.length->g=true->a.width+4*e<32768)/\(0<=a.width/\a.width<65536)/\a.count=(p.length:Int):=by
 by_cases h0:p.length=0
 ·refine ⟨⟨0,0,0,0⟩,true,λ_=>rfl,λh=>by omega,?_,λh=>by omega,by simp,by simp [h0]⟩;unfold Br;rw [gdF (by rfl),sb,gdF (by rfl),sb];rfl
 ·obtain ⟨a,a1,a2⟩:=A8f (F:=F) hF (List.ne_nil_of_length_pos (by omega:0<p.length)) hp hb;refine ⟨a,_,λh=>by omega,λ_=>⟨a1,a2⟩,Zc a2 (by omega) hp,λ_ hg=>?_,a2.width,a2.count⟩;rw [show decide (p.length=0)=false from decide_eq_false h0,Bool.false_or] at hg;exact of_decide_eq_true hg
theorem A8o {x559 x560 x561 x562 x563 x564 a1 a2 a3 a4:Int} {c g:Bool} {k9:Int->Int->Int->Int->Int->Int->Int->Int->Int->Int->Bool->Option api_Echo} (h:Br F ⟨a1,a2,a3,a4⟩ e=some g) (hx:0<=x564/\x564<=10) :
  G9 F ⟨0,e,⟨0,0⟩⟩ x559 x560 x561 x562 x563 x564 c k9 a1 a2 a3 a4=k9 a1 a2 a3 a4 x559 x560 x561 x562 (if a2>x563 then a2 else x563) (x564+1) (c&&g):=by
 unfold G9
 cases c with
 | true=>rw [B9 rfl,h,sb,ckb (by omega)];rfl
 | false=>rw [Au rfl,ckb (by omega)];rfl
theorem A4m {x555 x556 x557 x558 x563 x564 a1 a2 a3 a4:Int} {c g:Bool} {k9:Int->Int->Int->Int->Int->Int->Int->Int->Int->Int->Bool->Option api_Echo} (h:Br F ⟨a1,a2,a3,a4⟩ e=some g) (hx:0<=x564/\x564<=10) :
  Ga F ⟨0,e,⟨0,0⟩⟩ x555 x556 x557 x558 x563 x564 c k9 a1 a2 a3 a4=k9 x555 x556 x557 x558 a1 a2 a3 a4 (if a2>x563 then a2 else x563) (x564+1) (c&&g):=by
 unfold Ga
 cases c with
 | true=>rw [B9 rfl,h,sb,ckb (by omega)];rfl
 | false=>rw [Au rfl,ckb (by omega)];rfl
structure EcB (t:pulse_Train) (num den:Int) (x:api_Echo):Prop where
 ok:echoE x=0
 hit:x.Kind=3->turnB (stepOf x 0)=true/\hitq t 0 (stepOf x 0) num den/\(t.Kind≠1->turnB (stepOf x 1)=true/\hitq t 1 (stepOf x 1) num den)
theorem B04 (h:TrB t n) (hF:3000<=F) (hd:1<=den/\den<=10000) (hn:-(4096*den)<=num/\num<=4096*den) (he:1<=e/\e<=401) {P W:Int} (hP:1<=P/\P<=1000) (hW:0<=W/\W<65536) {y a b:pulse_arc} {z:List Int} (hz:z.length=n) (hy:ArcOk z y)
  (ha:ArcOk ((idx t.Kind n 0).map (stP (Qf t n num den e sl fr))) a) (hb0:t.Kind=1->b=⟨0,0,0,0⟩) (hb1:t.Kind≠1->ArcOk ((idx t.Kind n 1).map (stP (Qf t n num den e sl fr))) b) {c:Bool} (hca:c=true->a.width+4*e<32768) (hcb:t.Kind≠1->c=true->b.width+4*e<32768) :
  ∃x,Gy F t ⟨0,e,⟨0,0⟩⟩ P P 1000 1000 1000 1000 y a.base a.width a.sum a.count b.base b.width b.sum b.count W c=some x/\EcB t num den x:=by
 have hcn:=h.cn;have hcy:=hy.count;have hk:=h.kd;have e0:(if (1000:Int)<1000000 then (1000:Int) else 1000000)=1000:=by decide
 unfold Gy
 cases c with
 | false =>
  rw [B9 (by rfl),e0];refine ⟨_,rfl,?_,λh3=>absurd h3 (show ¬(2:Int)=3 by decide)⟩;unfold echoE To inB noB;rw [if_neg (by simp),if_pos];simp;omega
 | true =>
  have b2e:(2*e)*y.count<=802*12:=Int.mul_le_mul (by omega) (by omega) (by omega) (by omega);have b2e0:0<=(2*e)*y.count:=Int.mul_nonneg (by omega) (by omega);obtain ⟨s,j,s1,s2,_⟩:=A1f (F:=F) hy (by omega) (by omega) (S:=2*e*y.count) ⟨b2e0,by rw [hcy];exact Int.mul_le_mul_of_nonneg_right (by omega) (by omega)⟩;obtain ⟨s0,u1,u2,u3⟩:=A4w (F:=F) h hd hn he (.inl rfl) ha (hca rfl);have hsb:∃s',D2 F b (if t.Kind=3 then 2*e*b.count else 2*e)=some s'/\turnB s'=true/\(t.Kind≠1->hitq t 1 s' num den):=by
   by_cases h1:t.Kind=1
   ·refine ⟨⟨0,0⟩,?_,by rfl,λh2=>absurd h1 h2⟩;rw [hb0 h1];rfl
   ·obtain ⟨s',v1,v2,v3⟩:=A4w (F:=F) h hd hn he (.inr ⟨rfl,h1⟩) (hb1 h1) (hcb h1 rfl);exact ⟨s',v1,v2,λ_=>v3⟩
  obtain ⟨s',v1,v2,v3⟩:=hsb;have hlen0:=Sn t.Kind n 0;have hlen1:=Sn t.Kind n 1;have hca':a.count=((idx t.Kind n 0).length:Int):=by rw [ha.count,List.length_map]
  have hcb':0<=b.count/\b.count<=12:=by
   by_cases h1:t.Kind=1
   ·rw [hb0 h1];simp
   ·rw [(hb1 h1).count,List.length_map];omega
  have ba:0<=2*e*a.count/\2*e*a.count<=802*12:=⟨Int.mul_nonneg (by omega) (by omega),Int.mul_le_mul (by omega) (by omega) (by omega) (by omega)⟩;have bb:0<=2*e*b.count/\2*e*b.count<=802*12:=⟨Int.mul_nonneg (by omega) (by omega),Int.mul_le_mul (by omega) (by omega) (by omega) (by omega)⟩;refine ⟨⟨3,⟨P,P⟩,(⟨s0.Lo,s0.Hi⟩,⟨s'.Lo,s'.Hi⟩),W,⟨1000,1000⟩,⟨1000,1000⟩,s⟩,?_,?_,?_⟩
  ·rw [Au (by rfl),ckb (by simp only;omega),ckb (by simp only;omega),s1,sb];obtain ⟨N,rfl⟩:∃N',F=N'+3:=⟨F-3,by omega⟩;generalize hFF:N+3=F at *;obtain ⟨G,hG⟩:∃G,G=F:=⟨_,rfl⟩;have step0:∀M,C9 F t ⟨0,e,⟨0,0⟩⟩ P P 1000 1000 1000 1000 a.base a.width a.sum a.count b.base b.width b.sum b.count W s (M+1) 0 0 0 0 0=C9 F t ⟨0,e,⟨0,0⟩⟩ P P 1000 1000 1000 1000 a.base a.width a.sum a.count b.base b.width b.sum b.count W s M s0.Lo s0.Hi 0 0 1:=by
    intro M;show Dp F t _ P P 1000 1000 1000 1000 a.base a.width a.sum a.count b.base b.width b.sum b.count W s (C9 F t _ P P 1000 1000 1000 1000 a.base a.width a.sum a.count b.base b.width b.sum b.count W s M) 0 0 0 0 0=_;unfold Dp Jl;rw [B9 (by rfl),B9 (by rfl),ckb (by simp only;omega)]
    by_cases h3:t.Kind=3
    ·rw [if_pos h3] at u1;rw [B9 (by simp [h3]),ckb (by simp only;omega),u1,sb,ckb (by omega)];rfl
    ·rw [if_neg h3] at u1;rw [Au (by simp [h3]),u1,sb,ckb (by omega)];rfl
   have step1:∀M,C9 F t ⟨0,e,⟨0,0⟩⟩ P P 1000 1000 1000 1000 a.base a.width a.sum a.count b.base b.width b.sum b.count W s (M+1) s0.Lo s0.Hi 0 0 1=C9 F t ⟨0,e,⟨0,0⟩⟩ P P 1000 1000 1000 1000 a.base a.width a.sum a.count b.base b.width b.sum b.count W s M s0.Lo s0.Hi s'.Lo s'.Hi 2:=by
    intro M;show Dp F t _ P P 1000 1000 1000 1000 a.base a.width a.sum a.count b.base b.width b.sum b.count W s (C9 F t _ P P 1000 1000 1000 1000 a.base a.width a.sum a.count b.base b.width b.sum b.count W s M) s0.Lo s0.Hi 0 0 1=_;unfold Dp Jm;rw [B9 (by rfl),Au (by rfl),B9 (by rfl),ckb (by simp only;omega)]
    by_cases h3:t.Kind=3
    ·rw [if_pos h3] at v1;rw [B9 (by simp [h3]),ckb (by simp only;omega),v1,sb,ckb (by omega)];rfl
    ·rw [if_neg h3] at v1;rw [Au (by simp [h3]),v1,sb,ckb (by omega)];rfl
   have hall:∀M,C9 F t ⟨0,e,⟨0,0⟩⟩ P P 1000 1000 1000 1000 a.base a.width a.sum a.count b.base b.width b.sum b.count W s (M+3) 0 0 0 0 0=some ⟨3,⟨P,P⟩,(⟨s0.Lo,s0.Hi⟩,⟨s'.Lo,s'.Hi⟩),W,⟨1000,1000⟩,⟨1000,1000⟩,s⟩:=by
    intro M;rw [step0,step1];show Dp F t _ P P 1000 1000 1000 1000 a.base a.width a.sum a.count b.base b.width b.sum b.count W s (C9 F t _ P P 1000 1000 1000 1000 a.base a.width a.sum a.count b.base b.width b.sum b.count W s M) s0.Lo s0.Hi s'.Lo s'.Hi 2=_;unfold Dp Le;rw [Au (by rfl),e0]
   have:=hall N;rw [hFF] at this;exact this
  ·unfold echoE To inB;rw [if_neg (by simp),if_pos];simp only [T4,u2,v2,s2];simp;omega
  ·intro _;exact ⟨u2,u3,λh1=>⟨v2,v3 h1⟩⟩
end
end Go.Proofs.YtkdhnnfokfchpaaGreat
namespace Go.Proofs.YtkdhnnfokfchpaaGreat
open Go Go.RowKit Go.Eng
set_option maxRecDepth 10000
set_option linter.unusedVariables false
set_option linter.unusedSimpArgs false
section
variable {t:pulse_Train} {n:Nat} {num den L e fr:Int} {sl:List Int} {F:Nat} {Q:Nat->Int}
theorem A0p (hn:n<=1000) (P:Int) (r154:((List Int)×(List Int)×Nat)×Bool):∀(q N i:Nat),i+q=n->q<N->F7 F t ⟨0,e,⟨0,0⟩⟩ ((List.range n).map (smB L Q)) P P 1000 1000 1000 1000 r154 N (i:Int) (List.replicate i 0)=Gx F t ⟨0,e,⟨0,0⟩⟩ P P 1000 1000 1000 1000 r154 (List.replicate n 0):=by
 intro q
 induction q with
 | zero =>
  intro N i hi hN;obtain ⟨N,rfl⟩:∃N',N=N'+1:=⟨N-1,by omega⟩;show F6 F t _ _ P P 1000 1000 1000 1000 r154 (F7 F t _ _ P P 1000 1000 1000 1000 r154 N) (i:Int) _=_;unfold F6;rw [Au (decide_eq_false (by rw [List.length_map,List.length_range];omega)),show i=n by omega]
 | succ q ih =>
  intro N i hi hN;obtain ⟨N,rfl⟩:∃N',N=N'+1:=⟨N-1,by omega⟩;show F6 F t _ _ P P 1000 1000 1000 1000 r154 (F7 F t _ _ P P 1000 1000 1000 1000 r154 N) (i:Int) _=_;unfold F6;rw [B9 (decide_eq_true (by rw [List.length_map,List.length_range];omega)),Sj (by omega:i<n)];have e1:(smB L Q i).Q-(smB L Q i).P=0:=Int.sub_self _;have e2:Bh 0=0:=by rw [Rb];rfl
  rw [e1,ckb (by omega),e2,Ky (by simp;omega),ckb (by omega),←List.replicate_succ'];have:=ih N (i+1) (by omega) (by omega);rw [Int.natCast_add] at this;exact this
theorem A5n {w:Int}:∀x∈(idx t.Kind n w).map (stP Q),0<=x/\x<65536:=by
 intro x hx;obtain ⟨i,_,rfl⟩:=List.mem_map.1 hx;unfold stP;omega
theorem B03 (h:TrB t n) (hF:3000<=F) (hd:1<=den/\den<=10000) (hn:-(4096*den)<=num/\num<=4096*den) (he:1<=e/\e<=401) {P:Int} (hP:1<=P/\P<=1000) (hQ:Q=Qf t n num den e sl fr) :
  ∃x,Gx F t ⟨0,e,⟨0,0⟩⟩ P P 1000 1000 1000 1000 (((idx t.Kind n 0).map (stP Q),(idx t.Kind n 1).map (stP Q),0),true) (List.replicate n 0)=some x/\EcB t num den x:=by
 have hcn:=h.cn;have hl0:=Sn t.Kind n 0;have hl1:=Sn t.Kind n 1;have hlp0:0<(idx t.Kind n 0).length:=List.length_pos_iff.2 (Zz h.kd h.cn (.inl rfl));have l0:((idx t.Kind n 0).map (stP Q)).length=(idx t.Kind n 0).length:=List.length_map ..;have l1:((idx t.Kind n 1).map (stP Q)).length=(idx t.Kind n 1).length:=List.length_map ..;obtain ⟨y,gy,_,hy1,hy2,_,hy4,_⟩:=Ww (F:=F) (e:=e) (p:=List.replicate n 0) hF (by simp;omega) (λx hx=>by rw [(List.mem_replicate.1 hx).2];omega) he;obtain ⟨a,ga,_,ha1,ha2,ha3,ha4,_⟩:=Ww (F:=F) (e:=e) (p:=(idx t.Kind n 0).map (stP Q)) hF (by omega) A5n he;obtain ⟨b,gb,hb0,hb1,hb2,hb3,hb4,_⟩:=Ww (F:=F) (e:=e) (p:=(idx t.Kind n 1).map (stP Q)) hF (by omega) A5n he;obtain ⟨y1,y2⟩:=hy1 (by simp;omega);obtain ⟨a1,a2⟩:=ha1 (by omega);have hlz:t.Kind=1->(idx t.Kind n 1).length=0:=λh1=>by rw [h1,A6i h.cn];rfl
 have hlp:t.Kind≠1->0<(idx t.Kind n 1).length:=λh1=>List.length_pos_iff.2 (Zz h.kd h.cn (.inr ⟨rfl,h1⟩));obtain ⟨W,hW⟩:∃W,(if b.width>(if a.width>0 then a.width else 0) then b.width else (if a.width>0 then a.width else 0))=W:=⟨_,rfl⟩;have hWb:0<=W/\W<65536:=by
  rw [←hW]
  split<;>split<;>omega
 have step0:∀M,Ca F t ⟨0,e,⟨0,0⟩⟩ P P 1000 1000 1000 1000 (((idx t.Kind n 0).map (stP Q),(idx t.Kind n 1).map (stP Q),0),true) y (M+1) 0 0 0 0 0 0 0 0 0 0 gy=Ca F t ⟨0,e,⟨0,0⟩⟩ P P 1000 1000 1000 1000 (((idx t.Kind n 0).map (stP Q),(idx t.Kind n 1).map (stP Q),0),true) y M a.base a.width a.sum a.count 0 0 0 0 (if a.width>0 then a.width else 0) 1 (gy&&ga):=by
  intro M;show Dq F t _ P P 1000 1000 1000 1000 _ y (Ca F t _ P P 1000 1000 1000 1000 _ y M) 0 0 0 0 0 0 0 0 0 0 gy=_;unfold Dq;rw [B9 (by rfl),B9 (by rfl),B9 (decide_eq_true (by simp only;omega)),a1,sb,A8o ha2 (by omega)];rfl
 have step1:∀M W0 c,Ca F t ⟨0,e,⟨0,0⟩⟩ P P 1000 1000 1000 1000 (((idx t.Kind n 0).map (stP Q),(idx t.Kind n 1).map (stP Q),0),true) y (M+1) a.base a.width a.sum a.count 0 0 0 0 W0 1 c=Ca F t ⟨0,e,⟨0,0⟩⟩ P P 1000 1000 1000 1000 (((idx t.Kind n 0).map (stP Q),(idx t.Kind n 1).map (stP Q),0),true) y M a.base a.width a.sum a.count b.base b.width b.sum b.count (if b.width>W0 then b.width else W0) 2 (c&&gb):=by
  intro M W0 c;show Dq F t _ P P 1000 1000 1000 1000 _ y (Ca F t _ P P 1000 1000 1000 1000 _ y M) a.base a.width a.sum a.count 0 0 0 0 W0 1 c=_;unfold Dq
  by_cases h0:0<(idx t.Kind n 1).length
  ·rw [B9 (by rfl),Au (by rfl),B9 (by rfl),B9 (decide_eq_true (by simp only;omega)),(hb1 (by omega)).1,sb,A4m hb2 (by omega)];rfl
  ·have hbz:=hb0 (by omega);rw [B9 (by rfl),Au (by rfl),B9 (by rfl),Au (decide_eq_false (by simp only;omega)),hbz];rw [hbz] at hb2;rw [A4m hb2 (by omega)];rfl
 unfold Gx;have et:Br F y (pulse_Receiver.mk 0 e ⟨0,0⟩).Phase=some gy:=hy2;rw [y1,sb,et,sb];obtain ⟨N,hN⟩:∃N,F=N+3:=⟨F-3,by omega⟩;obtain ⟨x,x1,x2⟩:=B04 (F:=F) (sl:=sl) (fr:=fr) h hF hd hn he hP hWb (z:=List.replicate n 0) (by simp) y2 (by rw [←hQ];exact a2) (b:=b) (λh1=>hb0 (by rw [l1];exact hlz h1)) (λh1=>by rw [←hQ];exact (hb1 (by rw [l1];exact hlp h1)).2) (c:=gy&&ga&&gb)
  (λhc=>ha3 (by omega) (by simp only [Bool.and_eq_true] at hc;exact hc.1.2)) (λh1 hc=>hb3 (by rw [l1];exact hlp h1) (by simp only [Bool.and_eq_true] at hc;exact hc.2))
 refine ⟨x,?_,x2⟩;rw [←x1,←hW];have hall:∀M,Ca F t ⟨0,e,⟨0,0⟩⟩ P P 1000 1000 1000 1000 (((idx t.Kind n 0).map (stP Q),(idx t.Kind n 1).map (stP Q),0),true) y (M+3) 0 0 0 0 0 0 0 0 0 0 gy=Gy F t ⟨0,e,⟨0,0⟩⟩ P P 1000 1000 1000 1000 y a.base a.width a.sum a.count b.base b.width b.sum b.count (if b.width>(if a.width>0 then a.width else 0) then b.width else (if a.width>0 then a.width else 0)) (gy&&ga&&gb):=by
  intro M;rw [step0,step1];show Dq F t _ P P 1000 1000 1000 1000 _ y (Ca F t _ P P 1000 1000 1000 1000 _ y M) a.base a.width a.sum a.count b.base b.width b.sum b.count _ 2 _=_;unfold Dq;rw [Au (by rfl)]
 have:=hall N;rw [←hN] at this;exact this
theorem A77 {a:Int} (ha:1<=a/\a<=100000) (z:Int):Gz F a (a*a) z=some 1000:=by
 have h1:0<a*a:=Int.mul_pos (by omega) (by omega);have h2:a*a<=100000*100000:=Int.mul_le_mul ha.2 ha.2 (by omega) (by omega);have e:1000*a*a=1000*(a*a):=Int.mul_assoc ..;unfold Gz;rw [Au (by simp;omega),ckb (by omega),e,ckb (by omega),Ko F (by omega) h1,sb,Int.mul_ediv_cancel _ (by omega)];rfl
theorem A78 {a:Int} (ha:1<=a/\a<=100000) (z:Int):H0 F a (a*a) z=some 1000:=by
 have h1:0<a*a:=Int.mul_pos (by omega) (by omega);have h2:a*a<=100000*100000:=Int.mul_le_mul ha.2 ha.2 (by omega) (by omega);have e:1000*a*a=1000*(a*a):=Int.mul_assoc ..;unfold H0;rw [Au (by simp;omega),ckb (by omega),e,ckb (by omega),Pg F (by omega) h1,sb,←Int.neg_mul,Int.mul_ediv_cancel _ (by omega)];rfl
theorem A4j (h:TrB t n) (hF:3000<=F) (hd:1<=den/\den<=10000) (hn:-(4096*den)<=num/\num<=4096*den) (he:1<=e/\e<=401) (hL:0<=L/\L<=19) (hQ:Q=Qf t n num den e sl fr) :
  ∃x,Mm F t ⟨0,e,⟨0,0⟩⟩ ((List.range n).map (smB L Q))=some x/\EcB t num den x:=by
 have hcn:=h.cn;have hsum:=A7f (F:=F) (Q:=Q) (n:=n) hF (L:=L) (by omega) (by omega);have hp0:0<=L*L:=Int.mul_nonneg hL.1 hL.1;have hp1:L*L<=19*19:=Int.mul_le_mul hL.2 hL.2 hL.1 (by omega);generalize hp:L*L=p at *;have hnp0:0<=(n:Int)*p:=Int.mul_nonneg (by omega) hp0;have hnp1:(n:Int)*p<=12*361:=Int.mul_le_mul (by omega) (by omega) hp0 (by omega);have d1:(n:Int)*p/(n:Int)=p:=Int.mul_ediv_cancel_left _ (by omega);have d2:-(-((n:Int)*p)/(n:Int))=p:=by rw [←Int.mul_neg,Int.mul_ediv_cancel_left _ (by omega),Int.neg_neg]
 have el:((((List.range n).map (smB L Q)).length:Nat):Int)=(n:Int):=by rw [List.length_map,List.length_range]
 have ew:IntKind.i64.wrap (0-(pulse_Receiver.mk 0 e ⟨0,0⟩).Level)=0:=by rfl
 have ei:(if p>0 then p else 0)=p:=by split<;>omega
 unfold Mm;rw [ew,hsum,sb,sb];have step0:∀M,C4 F t ⟨0,e,⟨0,0⟩⟩ ((List.range n).map (smB L Q)) ((n:Int)*p,(n:Int)*p,(n:Int)*p) ((n:Int)*p,(n:Int)*p,(n:Int)*p) (M+1) 0 0 0 0 0=C4 F t ⟨0,e,⟨0,0⟩⟩ ((List.range n).map (smB L Q)) ((n:Int)*p,(n:Int)*p,(n:Int)*p) ((n:Int)*p,(n:Int)*p,(n:Int)*p) M p p 0 0 1:=by
  intro M;show D5 F t _ _ _ _ (C4 F t _ _ _ _ M) 0 0 0 0 0=_;unfold D5;rw [B9 (by rfl),B9 (by rfl),el,Ko F (by omega) (by omega),sb,d1,ckb (by simp only;omega),Pg F (by omega) (by omega),sb,d2,ckb (by simp only;omega),ckb (by omega),Int.sub_zero,ei];rfl
 have step1:∀M,C4 F t ⟨0,e,⟨0,0⟩⟩ ((List.range n).map (smB L Q)) ((n:Int)*p,(n:Int)*p,(n:Int)*p) ((n:Int)*p,(n:Int)*p,(n:Int)*p) (M+1) p p 0 0 1=C4 F t ⟨0,e,⟨0,0⟩⟩ ((List.range n).map (smB L Q)) ((n:Int)*p,(n:Int)*p,(n:Int)*p) ((n:Int)*p,(n:Int)*p,(n:Int)*p) M p p p p 2:=by
  intro M;show D5 F t _ _ _ _ (C4 F t _ _ _ _ M) p p 0 0 1=_;unfold D5;rw [B9 (by rfl),Au (by rfl),B9 (by rfl),el,Ko F (by simp only;omega) (by omega),sb,d1,ckb (by simp only;omega),Pg F (by simp only;omega) (by omega),sb,d2,ckb (by simp only;omega),ckb (by omega),Int.sub_zero,ei];rfl
 have hall:∀M,C4 F t ⟨0,e,⟨0,0⟩⟩ ((List.range n).map (smB L Q)) ((n:Int)*p,(n:Int)*p,(n:Int)*p) ((n:Int)*p,(n:Int)*p,(n:Int)*p) (M+3) 0 0 0 0 0=Jk F t ⟨0,e,⟨0,0⟩⟩ ((List.range n).map (smB L Q)) ((n:Int)*p,(n:Int)*p,(n:Int)*p) ((n:Int)*p,(n:Int)*p,(n:Int)*p) p p p p:=by
  intro M;rw [step0,step1];show D5 F t _ _ _ _ (C4 F t _ _ _ _ M) p p p p 2=_;unfold D5;rw [Au (by rfl)]
 obtain ⟨N,hN⟩:∃N,F=N+3:=⟨F-3,by omega⟩;have hK:=hall N;rw [←hN] at hK;rw [hK];unfold Jk
 by_cases hz:p=0
 ·refine ⟨_,B9 (by simp [hz]),?_,λh3=>absurd h3 (show ¬(1:Int)=3 by decide)⟩;subst hz;rfl
 ·have hnp:1<=(n:Int)*p:=by
   have:(4:Int)*1<=(n:Int)*p:=Int.mul_le_mul (by omega) (by omega) (by omega) (by omega);omega
  have hq:Pd (1000*p) p=some 1000:=by
   unfold Pd;rw [if_neg hz,Int.mul_tdiv_cancel _ hz];rfl
  have hu:-(-(1000*p)/p)=1000:=by rw [←Int.neg_mul,Int.mul_ediv_cancel _ hz];rfl
  have hsq:((n:Int)*p)*((n:Int)*p)<=12*361*(12*361):=Int.mul_le_mul hnp1 hnp1 hnp0 (by omega);have hsq0:0<=((n:Int)*p)*((n:Int)*p):=Int.mul_nonneg hnp0 hnp0;have hk3:=B03 (F:=F) (P:=p) (sl:=sl) (fr:=fr) h hF hd hn he (by omega) hQ;obtain ⟨x,x1,x2⟩:=hk3;refine ⟨x,?_,x2⟩;rw [Au (by simp;omega),ckb (by omega),hq,sb,ckb (by omega),Pg F (by omega) (by omega),sb,hu];simp only;rw [ckb (by omega),ckb (by omega),A77 (by omega),sb,A78 (by omega),sb,A5o hF h,sb,B9 (by rfl)];exact (A0p (by omega) p _ n F 0 (by omega) (by omega)).trans x1
theorem Zn (hn:n<=1000) (hL:0<=L/\L<=19):∀(q N i:Nat),i+q=n->q<N->Gl F t ⟨0,e,⟨0,0⟩⟩ ((List.range n).map (smB L Q)) N (i:Int)=Kd F t ⟨0,e,⟨0,0⟩⟩ ((List.range n).map (smB L Q)):=by
 intro q
 induction q with
 | zero =>
  intro N i hi hN;obtain ⟨N,rfl⟩:∃N',N=N'+1:=⟨N-1,by omega⟩;show Gk F t _ _ (Gl F t _ _ N) (i:Int)=_;unfold Gk;rw [Au (decide_eq_false (by rw [List.length_map,List.length_range];omega))]
 | succ q ih =>
  intro N i hi hN;obtain ⟨N,rfl⟩:∃N',N=N'+1:=⟨N-1,by omega⟩;show Gk F t _ _ (Gl F t _ _ N) (i:Int)=_;unfold Gk;rw [B9 (decide_eq_true (by rw [List.length_map,List.length_range];omega)),Sj (by omega:i<n)];have e1:Bh (Q i%65536)=Q i%65536:=by rw [Rb];omega
  have w1:A9 L 0 1023=true:=by unfold A9;rw [decide_eq_true (by omega),decide_eq_true (by omega)];rfl
  simp only [smB,gt_iff_lt,Int.lt_irrefl,if_false,w1,e1];rw [Au (by rw [bne_self_eq_false];rfl),ckb (by omega)];have:=ih N (i+1) (by omega) (by omega);rw [Int.natCast_add] at this;exact this
theorem A6h (h:TrB t n) (hF:3000<=F) (hd:1<=den/\den<=10000) (hn:-(4096*den)<=num/\num<=4096*den) (he:1<=e/\e<=401) (hL:0<=L/\L<=19) (hQ:Q=Qf t n num den e sl fr) :
  ∃x,Nd F t ⟨0,e,⟨0,0⟩⟩ ((List.range n).map (smB L Q))=some (x,0)/\EcB t num den x:=by
 have hcn:=h.cn;obtain ⟨x,x1,x2⟩:=A4j (F:=F) h hF hd hn he hL hQ;refine ⟨x,?_,x2⟩;have hc:Da F t=some 0:=(Qr F t).trans (by rw [h.ok]);have hr:Fa F ⟨0,e,⟨0,0⟩⟩=some 0:=by
  unfold Fa;have w:A9 e 0 4096=true:=by unfold A9;rw [decide_eq_true (by omega),decide_eq_true (by omega)];rfl
  simp only;rw [w];rfl
 unfold Nd;rw [hc,sb,Au (by rfl),hr,sb,Au (by rfl),Au (by rw [h.ct];simp)];refine (Zn (by omega) hL n F 0 (by omega) (by omega)).trans ?_;unfold Kd;rw [x1,sb]
end
end Go.Proofs.YtkdhnnfokfchpaaGreat
namespace Go.Proofs.YtkdhnnfokfchpaaGreat
open Go Go.RowKit Go.Eng
set_option maxRecDepth 10000
set_option linter.unusedVariables false
set_option linter.unusedSimpArgs false
def dirB (ro a:Nat):Int×Int×Int:=match beam_Direction 0 (2*(ro:Int)) (2*(a:Int)+1) with
 | some (x,y,l,_)=>(x,y,l)
 | none=>(0,0,1)
def A9x (ro a:Nat):Bool:=decide (beam_Direction 0 (2*(ro:Int)) (2*(a:Int)+1)=some ((dirB ro a).1,(dirB ro a).2.1,(dirB ro a).2.2,0))&&decide (1<=(dirB ro a).2.2/\(dirB ro a).2.2<=100 /\
 -(dirB ro a).2.2<=(dirB ro a).1/\(dirB ro a).1<=(dirB ro a).2.2/\-(dirB ro a).2.2<=(dirB ro a).2.1/\(dirB ro a).2.1<=(dirB ro a).2.2/\(dirB ro a).1*(dirB ro a).1+(dirB ro a).2.1*(dirB ro a).2.1=(dirB ro a).2.2*(dirB ro a).2.2)
theorem A42:∀ro:Fin 4,∀a:Fin 12,1<=ro.val->a.val<4*ro.val->A9x ro.val a.val=true:=by decide +kernel
structure DirOk (ro a:Nat):Prop where
 eq:beam_Direction 0 (2*(ro:Int)) (2*(a:Int)+1)=some ((dirB ro a).1,(dirB ro a).2.1,(dirB ro a).2.2,0)
 bl:1<=(dirB ro a).2.2/\(dirB ro a).2.2<=100
 bx:-(dirB ro a).2.2<=(dirB ro a).1/\(dirB ro a).1<=(dirB ro a).2.2
 bY:-(dirB ro a).2.2<=(dirB ro a).2.1/\(dirB ro a).2.1<=(dirB ro a).2.2
 sq:(dirB ro a).1*(dirB ro a).1+(dirB ro a).2.1*(dirB ro a).2.1=(dirB ro a).2.2*(dirB ro a).2.2
theorem X1 {ro a:Nat} (hr:1<=ro/\ro<=3) (ha:a<4*ro):DirOk ro a:=by
 have h:=A42 ⟨ro,by omega⟩ ⟨a,by omega⟩ hr.1 ha;simp only [A9x,Bool.and_eq_true] at h;have h1:=of_decide_eq_true h.1;obtain ⟨h2,h3,h4,h5,h6,h7,h8⟩:=of_decide_eq_true h.2;exact ⟨h1,⟨h2,h3⟩,⟨h4,h5⟩,⟨h6,h7⟩,h8⟩
structure UnB (a:top_Unfolded):Prop where
 kind:0<=a.Kind/\a.Kind<=255
 lam:0<=a.Lambda/\a.Lambda<=255
 first:0<=a.First/\a.First<=255
 second:0<=a.Second/\a.Second<=255
 count:0<=a.Count/\a.Count<=255
 slip:0<=a.Slip/\a.Slip<=255
 slips:∀b∈a.Slips,0<=b/\b<=65535
 loud:∀b∈a.Loud,0<=b/\b<=255
section
variable {F:Nat} {a:top_Unfolded}
theorem A5u (h:UnB a):∃t n,Du F a=some t/\TrB t n:=by
 have h1:=h.kind;have h2:=h.lam;have h3:=h.first;have h4:=h.second;have h5:=h.count;have hc:a.Count%5=0\/a.Count%5=1\/a.Count%5=2\/a.Count%5=3\/a.Count%5=4:=by omega
 unfold Du;rw [ckb (by omega),ckb (by omega),ckb (by omega),ckb (by omega),Sv h1.1 (by omega),sb,ckb (by omega),ckb (by omega),ckb (by omega),ckb (by omega),ckb (by omega),Sv h5.1 (by omega),sb,ckb (by omega),ckb (by omega)]
 by_cases hk:1+a.Kind%3=1
 ·rw [Au (by simp [hk])];refine ⟨_,(4+2*(a.Count%5)).toNat,rfl,.inl hk,by omega,by show 4+2*(a.Count%5)=_;omega,by show 60000<=60000+200*a.Lambda/\60000+200*a.Lambda<=_;omega,by show 400<=400+4*a.First/\400+4*a.First<=_;omega,.inl ⟨hk,rfl⟩⟩
 ·rw [B9 (by simpa using hk),ckb (by omega),ckb (by omega),ckb (by omega),ckb (by omega)];refine ⟨_,(4+2*(a.Count%5)).toNat,rfl,?_,?_,?_,?_,?_,?_⟩<;>(try simp only)<;>omega
theorem A7a (h:UnB a):∃e,Fq F a=some e/\1<=e/\e<=401:=by
 have h1:=h.slip;unfold Fq;rw [ckb (by omega),Sv h1.1 (by omega),sb,ckb (by omega),ckb (by omega)];exact ⟨_,rfl,by omega,by omega⟩
end
def nuB (U V:Int) (ro a:Nat):Int:=U*(dirB ro a).1+V*(dirB ro a).2.1
def deB (ro a:Nat):Int:=16*(dirB ro a).2.2
section
variable {F:Nat} {p:top_Blown} {t:pulse_Train} {n ro:Nat} {e:Int}
theorem A51 (hU:-32768<=p.U/\p.U<=32767) (hV:-32768<=p.V/\p.V<=32767) {a:Nat} (h:DirOk ro a):(1<=deB ro a/\deB ro a<=10000)/\-(4096*deB ro a)<=nuB p.U p.V ro a/\nuB p.U p.V ro a<=4096*deB ro a/\(-(32768*(dirB ro a).2.2)<=p.U*(dirB ro a).1/\p.U*(dirB ro a).1<=32768*(dirB ro a).2.2)/\(-(32768*(dirB ro a).2.2)<=p.V*(dirB ro a).2.1/\p.V*(dirB ro a).2.1<=32768*(dirB ro a).2.2):=by
 have h1:=Lt (show -32768<=p.U/\p.U<=32768 by omega) h.bx;have h2:=Lt (show -32768<=p.V/\p.V<=32768 by omega) h.bY;have h3:=h.bl;unfold nuB deB;omega
theorem A36 (hF:3000<=F) (hU:-32768<=p.U/\p.U<=32767) (hV:-32768<=p.V/\p.V<=32767) (hA:UnB p.Air) (hT:TrB t n) (hr:1<=ro/\ro<=3) {a:Nat} (ha:a<4*ro) {X:List (List api_Echo)} (hX:X.length=a) {L:Int} (hL:0<=L/\L<=19) (k2:(List (List api_Echo))->Int->Option (api_Sweep×Bool)) :
  ∃x,EcB t (nuB p.U p.V ro a) (deB ro a) x/\Dt F p t X (a:Int) k2 ((dirB ro a).1,(dirB ro a).2.1,(dirB ro a).2.2,0) L=k2 (X++[[x]]) ((a+1:Nat):Int):=by
 have hd:=X1 hr ha;obtain ⟨⟨b1,b2⟩,b3,b4,b5,b6⟩:=A51 hU hV hd;have hl:=hd.bl;obtain ⟨e,e1,e2,e3⟩:=A7a (F:=F) hA;have hp:=A2v (F:=F) (t:=t) (n:=n) (num:=nuB p.U p.V ro a) (den:=deB ro a) (L:=L) (e:=e) (fr:=5*(a:Int)) (sl:=p.Air.Slips) hT hF ⟨b1,b2⟩ ⟨b3,b4⟩ ⟨e2,e3⟩ (by omega) hA.slips;obtain ⟨x,x1,x2⟩:=A6h (F:=F) (t:=t) (n:=n) (num:=nuB p.U p.V ro a) (den:=deB ro a) (L:=L) (e:=e) (fr:=5*(a:Int)) (sl:=p.Air.Slips) hT hF ⟨b1,b2⟩ ⟨b3,b4⟩ ⟨e2,e3⟩ hL rfl;refine ⟨x,x2,?_⟩;unfold Dt;unfold nuB deB at hp;simp only;rw [ckb (by omega),ckb (by omega),ckb (by omega),ckb (by omega),ckb (by omega),ckb (by omega),ckb (by omega),e1,sb,sb,hp,sb];unfold nuB deB at x1;rw [x1,sb,Au (by rfl),Ky (by simp;omega),ckb (by omega)];rfl
def RwB (t:pulse_Train) (U V:Int) (ro a:Nat) (r:List api_Echo):Prop:=∃x,r=[x]/\EcB t (nuB U V ro a) (deB ro a) x
theorem A2a {α:Type} {X:List α} {y d:α} {j:Nat} (hj:j<X.length+1):(X++[y]).getD j d=if j<X.length then X.getD j d else y:=by
 rw [List.getD_eq_getElem?_getD,List.getD_eq_getElem?_getD]
 split
 ·rw [List.getElem?_append_left (by omega)]
 ·rw [List.getElem?_append_right (by omega),show j-X.length=0 by omega];rfl
theorem A0o (hF:3000<=F) (hU:-32768<=p.U/\p.U<=32767) (hV:-32768<=p.V/\p.V<=32767) (hA:UnB p.Air) (hT:TrB t n) (hr:1<=ro/\ro<=3):∀(q N i:Nat) (X:List (List api_Echo)),i+q=4*ro->q<N->X.length=i->(∀j<i,RwB t p.U p.V ro j (X.getD j [])) ->
  ∃X',Cj F p (ro:Int) t N X (i:Int)=some (swp (ro:Int) 1 X',true)/\X'.length=4*ro/\∀j<4*ro,RwB t p.U p.V ro j (X'.getD j []):=by
 intro q
 induction q with
 | zero =>
  intro N i X hi hN hX hR;obtain ⟨N,rfl⟩:∃N',N=N'+1:=⟨N-1,by omega⟩;refine ⟨X,?_,by omega,λj hj=>hR j (by omega)⟩;show Dr F p (ro:Int) t (Cj F p (ro:Int) t N) X (i:Int)=_;unfold Dr;rw [ckb (by omega),Au (decide_eq_false (by omega))];rfl
 | succ q ih =>
  intro N i X hi hN hX hR;obtain ⟨N,rfl⟩:∃N',N=N'+1:=⟨N-1,by omega⟩;have hd:=X1 hr (show i<4*ro by omega);have key:∀L,0<=L/\L<=19->∃X',Dt F p t X (i:Int) (Cj F p (ro:Int) t N) ((dirB ro i).1,(dirB ro i).2.1,(dirB ro i).2.2,0) L=some (swp (ro:Int) 1 X',true)/\X'.length=4*ro/\∀j<4*ro,RwB t p.U p.V ro j (X'.getD j []):=by
   intro L hL;obtain ⟨x,x1,x2⟩:=A36 hF hU hV hA hT hr (show i<4*ro by omega) hX hL (Cj F p (ro:Int) t N);rw [x2];refine ih N (i+1) (X++[[x]]) (by omega) (by omega) (by simp [hX]) λj hj=>?_;rw [A2a (by omega)]
   split
   ·exact hR j (by omega)
   ·rw [show j=i by omega];exact ⟨x,rfl,x1⟩
  show ∃X',Dr F p (ro:Int) t (Cj F p (ro:Int) t N) X (i:Int)=_/\_;unfold Dr;have hdir:beam_Direction F (2*(ro:Int)) (2*(i:Int)+1)=some ((dirB ro i).1,(dirB ro i).2.1,(dirB ro i).2.2,0):=hd.eq;rw [ckb (by omega),B9 (decide_eq_true (by omega)),ckb (by omega),ckb (by omega),ckb (by omega),hdir,sb,Au (by rfl)]
  by_cases h0:0<p.Air.Loud.length
  ·have em:Ht (i:Int) (p.Air.Loud.length:Int)=some ((i%p.Air.Loud.length:Nat):Int):=by
    rw [Sv (by omega) (by omega)];rfl
   have hlt:i%p.Air.Loud.length<p.Air.Loud.length:=Nat.mod_lt _ h0;have hv:=hA.loud _ (Pt hlt);have hg:p.Air.Loud.getD (i%p.Air.Loud.length) 0=gI p.Air.Loud (i%p.Air.Loud.length):=rfl;rw [B9 (decide_eq_true (by omega)),em,sb,Ev 0 (by omega),Int.toNat_natCast,hg,ckb (by omega),Sv hv.1 (by omega),sb];exact key _ (by omega)
  ·rw [Au (decide_eq_false (by omega))];exact key 9 (by omega)
theorem A5r (hF:3000<=F) (hU:-32768<=p.U/\p.U<=32767) (hV:-32768<=p.V/\p.V<=32767) (hA:UnB p.Air) (hr:1<=ro/\ro<=3) :
  ∃t n X,Du F p.Air=some t/\TrB t n/\Jq F p (ro:Int)=some (swp (ro:Int) 1 X,true)/\X.length=4*ro/\∀j<4*ro,RwB t p.U p.V ro j (X.getD j []):=by
 obtain ⟨t,n,t1,t2⟩:=A5u (F:=F) hA;obtain ⟨X,x1,x2,x3⟩:=A0o (n:=n) hF hU hV hA t2 hr (4*ro) F 0 [] (by omega) (by omega) rfl (λj hj=>by omega);refine ⟨t,n,X,t1,t2,?_,x2,x3⟩;unfold Jq;rw [t1,sb];exact x1
end
end Go.Proofs.YtkdhnnfokfchpaaGreat
namespace Go.Proofs.YtkdhnnfokfchpaaGreat
open Go Go.RowKit Go.Eng
set_option maxRecDepth 10000
set_option linter.unusedVariables false
set_option linter.unusedSimpArgs false
theorem A6o {set:List api_Span} {l:List fold_Guess} {m:Int} (hv:∀g∈l,-m<=g.Speed.Lo/\g.Speed.Hi<=m) {q:fold_Guess} (hq:q∈l.filterMap (Sp set)):-m<=q.Speed.Lo/\q.Speed.Hi<=m:=by
 obtain ⟨g,hg,he⟩:=List.mem_filterMap.1 hq;have hgb:=hv g hg;have hcan:=Pa set [g.Speed];have hin:∀s∈mt set [g.Speed],g.Speed.Lo<=s.Lo/\s.Hi<=g.Speed.Hi:=by
  intro s hs;have hvs:=hcan.2 s hs;have m1:mem (2*s.Lo) (mt set [g.Speed]):=⟨s,hs,by unfold inS;omega⟩;have m2:mem (2*s.Hi) (mt set [g.Speed]):=⟨s,hs,by unfold inS;omega⟩;obtain ⟨u,hu,hu2⟩:=((Tm _ _ _).1 m1).2;obtain ⟨v,hv,hv2⟩:=((Tm _ _ _).1 m2).2;simp at hu hv;subst hu hv;unfold inS at hu2 hv2;omega
 unfold Sp at he
 split at he
 ·rename_i hpos
  cases he
  generalize mt set [g.Speed]=M at *;simp only;have h1:=hin (M.getD 0 default) (by rw [List.getD_eq_getElem?_getD,List.getElem?_eq_getElem hpos];exact List.getElem_mem _);have h2:=hin (M.getD (M.length-1) default) (by rw [List.getD_eq_getElem?_getD,List.getElem?_eq_getElem (by omega)];exact List.getElem_mem _);omega
 ·cases he
section
variable {F:Nat} {t:pulse_Train} {n ro:Nat} {U V:Int} {X:List (List api_Echo)}
theorem A43 {ro a:Nat} {x:api_Echo} (h:EcB t (nuB U V ro a) (deB ro a) x) (hd:1<=deB ro a) (hb:-(4096*deB ro a)<=nuB U V ro a/\nuB U V ro a<=4096*deB ro a) {v:Int} (hv:v=nuB U V ro a/deB ro a\/v=-(-nuB U V ro a/deB ro a)):Gate t 0 9000 x v:=by
 have hvb:-4096<=v/\v<=4096:=by
  rcases hv with rfl|rfl
  ·refine ⟨Int.le_ediv_of_mul_le (by omega) (by rw [Int.neg_mul];exact hb.1),?_⟩;have:=Int.ediv_le_ediv (show 0<deB ro a by omega) hb.2;rw [Int.mul_ediv_cancel _ (by omega)] at this;exact this
  ·have h1:=Int.ediv_le_ediv (show 0<deB ro a by omega) (show -nuB U V ro a<=4096*deB ro a by omega);rw [Int.mul_ediv_cancel _ (by omega)] at h1;have h2:-4096<=-nuB U V ro a/deB ro a:=Int.le_ediv_of_mul_le (by omega) (by rw [Int.neg_mul];omega);omega
 refine ⟨by omega,by omega,h.ok,λh3=>?_⟩;obtain ⟨h4,h5,h6⟩:=h.hit h3;exact ⟨h4,Yf (by omega) h5 hv,λh7=>⟨(h6 h7).1,Yf (by omega) (h6 h7).2 hv⟩⟩
structure RyB (U V:Int) (ro:Nat) (y:wind_Ray):Prop where
 ray:∃a:Nat,y.Ray=(a:Int)/\a<4*ro/\y.Speed.Lo*deB ro a<=nuB U V ro a/\nuB U V ro a<=y.Speed.Hi*deB ro a
 bs:-30000<=y.Speed.Lo/\y.Speed.Lo<=y.Speed.Hi/\y.Speed.Hi<=30000
theorem A8k {ro:Nat} {X:List (List api_Echo)} {a:Nat} {x:api_Echo} (h:X.getD a []=[x]):gX (swp (ro:Int) 1 X) a 0=x:=by
 show (X.getD a []).getD 0 default=x;rw [h];rfl
theorem A49 (hF:FS<=F) (hU:-32768<=U/\U<=32767) (hV:-32768<=V/\V<=32767) (hT:TrB t n) (hr:1<=ro/\ro<=3) (hX:X.length=4*ro) (hR:∀j<4*ro,RwB t U V ro j (X.getD j [])) :
  ∃f:Nat->fold_Found,Jc F t (swp (ro:Int) 1 X) 30000 9000 1=some ((List.range (4*ro)).map (λa=>[f a]),0)/\∀a<4*ro,(f a).State=2->∃q,(f a).Guesses=[q]/\RyB U V ro ⟨(a:Int),q.Speed⟩:=by
 have hF1:=hF;unfold FS at hF1;have hnu:∀a<4*ro,(1<=deB ro a/\deB ro a<=10000)/\-(4096*deB ro a)<=nuB U V ro a/\nuB U V ro a<=4096*deB ro a:=λa ha=>by
  have:=A51 (p:=⟨U,V,0,default,0⟩) hU hV (X1 hr ha);exact ⟨this.1,this.2.1,this.2.2.1⟩
 have hgx:∀a<4*ro,∃x,X.getD a []=[x]/\gX (swp (ro:Int) 1 X) a 0=x/\EcB t (nuB U V ro a) (deB ro a) x:=λa ha=>by
  obtain ⟨x,x1,x2⟩:=hR a ha;exact ⟨x,x1,A8k x1,x2⟩
 have hcs:E9 F (swp (ro:Int) 1 X)=some 0:=by
  refine A23 (by omega) (by omega) (by omega) (by omega) λr hr=>?_;obtain ⟨i,hi,e⟩:=List.mem_iff_getElem.1 hr;have e2:X.getD i []=r:=by rw [List.getD_eq_getElem?_getD,List.getElem?_eq_getElem hi];exact e
  obtain ⟨x,x1,x2,x3⟩:=hgx i (by omega);rw [←e2,x1];refine ⟨rfl,λy hy=>?_⟩;simp at hy;rw [hy];exact x3.ok
 have hrow:∀a<4*ro,((swp (ro:Int) 1 X).Rays.getD a []).length=1:=λa ha=>by
  obtain ⟨x,x1,_⟩:=hgx a ha;show (X.getD a []).length=1;rw [x1];rfl
 have hla:=hT.la;have hgl:A0t F t (swp (ro:Int) 1 X) 30000:=by
  intro a i h3;have hin:a<4*ro/\i=0:=by
   apply Classical.byContradiction;intro hc;have e:gX (swp (ro:Int) 1 X) a i=default:=by
    show (X.getD a []).getD i default=default
    by_cases ha:a<4*ro
    ·obtain ⟨x,x1,_⟩:=hgx a ha;rw [x1,List.getD_eq_getElem?_getD,List.getElem?_eq_none (by simp;omega)];rfl
    ·rw [show X.getD a []=[] by rw [List.getD_eq_getElem?_getD,List.getElem?_eq_none (by omega)];rfl];rfl
   rw [e] at h3;exact absurd h3 (by decide)
  obtain ⟨ha,rfl⟩:=hin;obtain ⟨x,x1,x2,x3⟩:=hgx a ha;rw [x2] at h3 ⊢;obtain ⟨h4,_,h6⟩:=x3.hit h3;have hu0:=A0q hT (w:=0) (.inl rfl);refine A9z F (by omega) hT.ok (Xw x3.ok h3) (by omega) (A15 (by omega) (by omega) (by omega) h4) λhkd=>?_;have hu1:=A0q hT (w:=1) (.inr ⟨rfl,hkd⟩);exact A15 (by omega) (by omega) (by omega) (h6 hkd).1
 obtain ⟨G,g1,g2,g3⟩:=A39 (s:=swp (ro:Int) 1 X) (mst:=30000) (jp:=9000) (br:=1) (n:=4*ro) (m:=1) hF hT.ok hcs (by omega) (by omega) (by omega) hgl hX (by omega) (by omega) hrow;refine ⟨λa=>oX t (swp (ro:Int) 1 X) 30000 G a 0,g1,λa ha h2=>?_⟩
 change (oX t (swp (ro:Int) 1 X) 30000 G a 0).State=2 at h2
 change ∃q,(oX t (swp (ro:Int) 1 X) 30000 G a 0).Guesses=[q]/\RyB U V ro ⟨(a:Int),q.Speed⟩
 obtain ⟨x,x1,x2,x3⟩:=hgx a ha;obtain ⟨⟨hd1,hd2⟩,hn1,hn2⟩:=hnu a ha;have hk:(gX (swp (ro:Int) 1 X) a 0).Kind=3:=by
  apply Classical.byContradiction;intro hc;unfold oX at h2;rw [if_neg hc] at h2;exact absurd h2 (by decide)
 have hot:oX t (swp (ro:Int) 1 X) 30000 G a 0=mkF ((gl t (gX (swp (ro:Int) 1 X) a 0) 30000).filterMap (Sp (gf G (a,0)))):=by unfold oX A4p;rw [if_pos hk]
 rw [hot] at h2 ⊢;have hlen:((gl t (gX (swp (ro:Int) 1 X) a 0) 30000).filterMap (Sp (gf G (a,0)))).length=1:=by
  unfold mkF at h2;simp only at h2
  split at h2
  ·omega
  ·split at h2
   ·assumption
   ·omega
 obtain ⟨q,hq⟩:=List.length_eq_one_iff.1 hlen;have hrd:∀v:Nat->Int,(∀j<4*ro,v j=nuB U V ro j/deB ro j\/v j=-(-nuB U V ro j/deB ro j))->q.Speed.Lo<=v a/\v a<=q.Speed.Hi:=by
  intro v hv;have hvX:∀j<4*ro,vX ((List.range (4*ro)).map λb=>[v b]) j 0=v j:=λj hj=>by
   unfold vX;rw [List.getD_eq_getElem?_getD,List.getD_eq_getElem?_getD,List.getElem?_map,List.getElem?_range hj];rfl
  have hg:∀b<4*ro,∀i<1,Gate t 0 9000 (gX (swp (ro:Int) 1 X) b i) (vX ((List.range (4*ro)).map λb=>[v b]) b i):=by
   intro b hb i hi;obtain rfl:i=0:=by omega
   obtain ⟨z,z1,z2,z3⟩:=hgx b hb;have:=hnu b hb;rw [z2,hvX b hb];exact A43 z3 (by omega) (by omega) (hv b hb)
  have hmem:=A5v (J:=9000) (by omega) hg (by omega) g2 ha (show 0<1 by omega) hk;rw [hvX a ha] at hmem;have hgt:=hg a ha 0 (by omega);rw [hvX a ha] at hgt;obtain ⟨_,q1,q2⟩:=hgt.hit hk;obtain ⟨g,h1,h2⟩:=A4f (t:=t) (x:=gX (swp (ro:Int) 1 X) a 0) (m:=30000) q1 (λhk=>(q2 hk).2) (by have:=hgt.bd;omega);obtain ⟨p,p1,p2⟩:=A4r (g2.good.good (a,0)) (λg hg=>(We hg).1) h1 h2 hmem;rw [hq] at p1;simp at p1;rw [←p1];exact p2
 have f1:=hrd (λj=>nuB U V ro j/deB ro j) λj _=>.inl rfl;have f2:=hrd (λj=>-(-nuB U V ro j/deB ro j)) λj _=>.inr rfl;have hbq:=A6o (m:=30000) (q:=q) (λg hg=>(We hg).2) (by rw [hq];exact List.mem_cons_self ..);refine ⟨q,hq,⟨a,rfl,ha,?_,?_⟩,?_⟩
 ·have h3:nuB U V ro a/deB ro a*deB ro a<=nuB U V ro a:=Int.ediv_mul_le _ (by omega);have h4:=Int.mul_le_mul_of_nonneg_right f1.1 (show 0<=deB ro a by omega);simp only;omega
 ·have h3:-nuB U V ro a/deB ro a*deB ro a<=-nuB U V ro a:=Int.ediv_mul_le _ (by omega);have h4:=Int.mul_le_mul_of_nonneg_right f2.2 (show 0<=deB ro a by omega);rw [Int.neg_mul] at h4;simp only;omega
 ·simp only;omega
end
end Go.Proofs.YtkdhnnfokfchpaaGreat
namespace Go.Proofs.YtkdhnnfokfchpaaGreat
open Go Go.RowKit Go.Eng
set_option maxRecDepth 10000
set_option linter.unusedVariables false
set_option linter.unusedSimpArgs false
theorem A5z:Li FS=some true:=by kernel_rfl
section
variable {F:Nat} {t:pulse_Train} {n ro:Nat} {U V:Int} {p:top_Blown}
theorem Ya {x y:Int} (hx:-4000000000000000000<=x/\x<=4000000000000000000) (hy:0<y):No F x y=some (x/y):=Ko F hx hy
def siB (ro:Int):api_Site:=⟨⟨#[115]⟩,0,0,0,ro,1,500,0⟩
theorem Wj (hr:1<=ro/\ro<=3):Kx F (siB ro) 0 ⟨0,0⟩=some 0:=by
 unfold Kx siB;rw [A0m (by omega) (by omega),sb,Au (by rfl)];rfl
theorem A6r (hU:-32768<=U/\U<=32767) (hV:-32768<=V/\V<=32767) (hr:1<=ro/\ro<=3) {y:wind_Ray} (hy:RyB U V ro y):∃x,Pi F (siB ro) 0 y.Ray y.Speed ⟨0,0⟩=some (x,0)/\SgB U V x:=by
 obtain ⟨a,ha,hlt,h1,h2⟩:=hy.ray;have hb:=hy.bs;have hd:=X1 hr hlt;have hdir:beam_Direction F (2*(ro:Int)) (2*(a:Int)+1)=some ((dirB ro a).1,(dirB ro a).2.1,(dirB ro a).2.2,0):=hd.eq;have hsl:Pn F 0=some (262144,0,262144,0):=by kernel_rfl
 have e1:y.Speed.Lo*262144/262144=y.Speed.Lo:=Int.mul_ediv_cancel _ (by decide);have e2:(0-y.Speed.Hi*262144)/262144=-y.Speed.Hi:=by omega
 have hw:E4 y.Speed 200000=true:=by
  unfold E4;rw [show IntKind.i64.wrap (0-200000)=-200000 from rfl,decide_eq_true (by omega),decide_eq_true (by omega),decide_eq_true (by omega)];rfl
 refine ⟨⟨(dirB ro a).1,(dirB ro a).2.1,(dirB ro a).2.2,⟨y.Speed.Lo,y.Speed.Hi⟩⟩,?_,hd.bl,hd.bx,hd.bY,hd.sq,hb,?_,?_⟩
 ·have er:(siB (ro:Int)).Rose=(ro:Int):=rfl;unfold Pi;rw [Wj hr,sb,Au (by rfl),ha,er,show decide ((a:Int)<0)=false from decide_eq_false (by omega),gdT (g:=false==false&&true) rfl,ckb (by omega),Au (by rw [decide_eq_false (show ¬(a:Int)>=4*(ro:Int) by omega),hw];rfl),ckb (by omega),ckb (by omega),ckb (by omega),hdir,sb,hsl,sb];simp only;rw [ckb (by omega),ckb (by omega),ckb (by omega),Int.mul_zero,Int.sub_zero,Ya (by omega) (by omega),sb,e1,ckb (by omega),ckb (by omega),ckb (by omega),Ya (by omega) (by omega),sb,e2,Ew (by omega),Int.neg_neg]
 ·unfold nuB deB at h1;simp only;rw [show (dirB ro a).1*U+(dirB ro a).2.1*V=U*(dirB ro a).1+V*(dirB ro a).2.1 by rw [Int.mul_comm,Int.mul_comm V]];have:y.Speed.Lo*(16*(dirB ro a).2.2)=16*(y.Speed.Lo*(dirB ro a).2.2):=Int.mul_left_comm ..;omega
 ·unfold nuB deB at h2;simp only;rw [show (dirB ro a).1*U+(dirB ro a).2.1*V=U*(dirB ro a).1+V*(dirB ro a).2.1 by rw [Int.mul_comm,Int.mul_comm V]];have:y.Speed.Hi*(16*(dirB ro a).2.2)=16*(y.Speed.Hi*(dirB ro a).2.2):=Int.mul_left_comm ..;omega
theorem Z5 (hU:-32768<=U/\U<=32767) (hV:-32768<=V/\V<=32767) (hr:1<=ro/\ro<=3) {R:List wind_Ray} (hR:∀y∈R,RyB U V ro y) (hl:R.length<=12):∀(q N i:Nat) (S:List wind_Sight),i+q=R.length->q<N->S.length=i->(∀x∈S,SgB U V x) ->
  ∃S',Hm F (siB ro) 0 R ⟨0,0⟩ N S (i:Int)=some (S',0)/\S'.length=R.length/\∀x∈S',SgB U V x:=by
 intro q
 induction q with
 | zero =>
  intro N i S hi hN hS hx;obtain ⟨N,rfl⟩:∃N',N=N'+1:=⟨N-1,by omega⟩;refine ⟨S,?_,by omega,hx⟩;show Hl F (siB ro) 0 R ⟨0,0⟩ (Hm F (siB ro) 0 R ⟨0,0⟩ N) S (i:Int)=_;unfold Hl;rw [Au (decide_eq_false (by omega))];rfl
 | succ q ih =>
  intro N i S hi hN hS hx;obtain ⟨N,rfl⟩:∃N',N=N'+1:=⟨N-1,by omega⟩;have hm:R.getD i default∈R:=by rw [List.getD_eq_getElem?_getD,List.getElem?_eq_getElem (by omega:i<R.length)];exact List.getElem_mem _
  obtain ⟨x,x1,x2⟩:=A6r (F:=F) hU hV hr (hR _ hm);show ∃S',Hl F (siB ro) 0 R ⟨0,0⟩ (Hm F (siB ro) 0 R ⟨0,0⟩ N) S (i:Int)=_/\_;unfold Hl;rw [B9 (decide_eq_true (by omega)),Ev default (by omega),Int.toNat_natCast,x1,sb,Au (by rfl),Ky (by simp;omega),ckb (by omega)];refine ih N (i+1) (S++[x]) (by omega) (by omega) (by simp [hS]) λz hz=>?_;rcases List.mem_append.1 hz with hz|hz
  ·exact hx z hz
  ·simp at hz;rw [hz];exact x2
theorem A0d (hr:1<=ro/\ro<=3) {f:Nat->fold_Found} (hf:∀a<4*ro,(f a).State=2->∃q,(f a).Guesses=[q]/\RyB U V ro ⟨(a:Int),q.Speed⟩) (y:api_Sweep×Bool):∀(q N i:Nat) (R:List wind_Ray),i+q=4*ro->q<N->R.length<=i->(∀z∈R,RyB U V ro z) ->
  ∃R',Dc F y ((List.range (4*ro)).map (λa=>[f a]),0) N R (i:Int)=Fo F y R'/\R'.length<=12/\∀z∈R',RyB U V ro z:=by
 intro q
 induction q with
 | zero =>
  intro N i R hi hN hl hR;obtain ⟨N,rfl⟩:∃N',N=N'+1:=⟨N-1,by omega⟩;refine ⟨R,?_,by omega,hR⟩;show Eb F y _ (Dc F y _ N) R (i:Int)=_;unfold Eb;rw [Au (decide_eq_false (by simp only [List.length_map,List.length_range];omega))]
 | succ q ih =>
  intro N i R hi hN hl hR;obtain ⟨N,rfl⟩:∃N',N=N'+1:=⟨N-1,by omega⟩;have hK3:∀R2:List wind_Ray,R2.length<=i+1->(∀z∈R2,RyB U V ro z)->∃R',Fp (i:Int) (Dc F y ((List.range (4*ro)).map (λa=>[f a]),0) N) R2=Fo F y R'/\R'.length<=12/\∀z∈R',RyB U V ro z:=by
   intro R2 h1 h2;unfold Fp;rw [ckb (by omega)];exact ih N (i+1) R2 (by omega) (by omega) h1 h2
  show ∃R',Eb F y _ (Dc F y _ N) R (i:Int)=_/\_;unfold Eb;simp only;rw [B9 (decide_eq_true (by simp only [List.length_map,List.length_range];omega)),Sj (by omega:i<4*ro),Au (by rfl),Sj (by omega:i<4*ro),show Ax [f i] 0=some (f i) from rfl,sb]
  by_cases h2:(f i).State=2
  ·obtain ⟨g,g1,g2⟩:=hf i (by omega) h2;rw [B9 (by simp [h2]),Sj (by omega:i<4*ro),show Ax [f i] 0=some (f i) from rfl,sb,g1,show Ax [g] 0=some g from rfl,sb,Ky (by simp;omega)];refine hK3 _ (by simp;omega) λz hz=>?_;rcases List.mem_append.1 hz with hz|hz
   ·exact hR z hz
   ·simp at hz;rw [hz];exact g2
  ·rw [Au (by simp [h2])];exact hK3 R (by omega) hR
theorem A1o (hF:FS<=F) (hU:-32768<=p.U/\p.U<=32767) (hV:-32768<=p.V/\p.V<=32767) (hA:UnB p.Air) (hr:1<=ro/\ro<=3):∃S,Gq F p (ro:Int)=some (S,true)/\S.length<=12/\∀x∈S,SgB p.U p.V x:=by
 have hF1:=hF;unfold FS at hF1;obtain ⟨t,n,X,t1,t2,x1,x2,x3⟩:=A5r (F:=F) (by omega) hU hV hA hr;obtain ⟨f,f1,f2⟩:=A49 (F:=F) hF hU hV t2 hr x2 x3;obtain ⟨R,r1,r2,r3⟩:=A0d (F:=F) hr f2 (swp (ro:Int) 1 X,true) (4*ro) F 0 [] (by omega) (by omega) (by simp) (by simp);obtain ⟨S,s1,s2,s3⟩:=Z5 (F:=F) hU hV hr r3 r2 R.length F 0 [] (by omega) (by omega) rfl (by simp);refine ⟨S,?_,by omega,s3⟩;have eU:Jc F t (api_Sweep.mk (api_Site.mk (swp (ro:Int) 1 X).Site.Name (swp (ro:Int) 1 X).Site.X (swp (ro:Int) 1 X).Site.Y (swp (ro:Int) 1 X).Site.Z (swp (ro:Int) 1 X).Site.Rose (swp (ro:Int) 1 X).Site.Gates (swp (ro:Int) 1 X).Site.Step (swp (ro:Int) 1 X).Site.Width) (swp (ro:Int) 1 X).Tilt (swp (ro:Int) 1 X).Time (swp (ro:Int) 1 X).Rays) 30000 9000 1=some ((List.range (4*ro)).map (λa=>[f a]),0):=f1;have hx:(swp (ro:Int) 1 X).Rays=X:=rfl;unfold Gq;rw [x1,sb,Au (by rfl),t1,sb];simp only;rw [eU,sb,Au (by rw [hx,List.length_map,List.length_range,x2];simp)];refine Eq.trans r1 ?_;unfold Fo;have eR:N3 F (siB (ro:Int)) 0 R ⟨0,0⟩=some (S,0):=by
  unfold N3;have es:El F (siB (ro:Int))=some 0:=A0m (by omega) (by omega);rw [es,sb,Au (by rfl),Au (decide_eq_false (by omega)),Wj hr,sb,Au (by rfl)];exact s1
 have eR2:N3 F (api_Site.mk (swp (ro:Int) 1 X).Site.Name (swp (ro:Int) 1 X).Site.X (swp (ro:Int) 1 X).Site.Y (swp (ro:Int) 1 X).Site.Z (swp (ro:Int) 1 X).Site.Rose (swp (ro:Int) 1 X).Site.Gates (swp (ro:Int) 1 X).Site.Step (swp (ro:Int) 1 X).Site.Width) 0 R (api_Span.mk 0 0)=some (S,0):=eR;simp only;rw [eR2,sb];simp [s2]
end
structure BlB (p:top_Blown):Prop where
 u:-32768<=p.U/\p.U<=32767
 v:-32768<=p.V/\p.V<=32767
 rose:0<=p.Rose/\p.Rose<=255
 air:UnB p.Air
 another:0<=p.Another/\p.Another<=255
theorem Xr (p:top_Blown) (h:BlB p):Lg FS p=some true:=by
 have hU:=h.u;have hV:=h.v;have h1:=h.rose;have h2:=h.another;have hw:=A5z;obtain ⟨F,hF⟩:∃F,F=FS:=⟨_,rfl⟩;have hFF:FS<=F:=by omega
 have hF1:=hFF;unfold FS at hF1;rw [←hF] at hw ⊢
 clear hF
 obtain ⟨l,l1,l2,l3⟩:=A1o (ro:=(1+p.Rose%3).toNat) hFF hU hV h.air (by omega);obtain ⟨m,m1,m2,m3⟩:=A1o (ro:=(1+p.Another%3).toNat) hFF hU hV h.air (by omega);rw [Int.toNat_of_nonneg (by omega)] at l1 m1;have hall:∀x∈l++m,SgB p.U p.V x:=λx hx=>(List.mem_append.1 hx).elim (l3 x) (m3 x);have hlen:(l++m).length<=24:=by rw [List.length_append];omega
 have s1:=A34 (F:=F) (by omega) (by omega) (by omega) hall hlen;obtain ⟨w,w1,w2,w3,w4,w5⟩:=A21 (F:=F) (by omega) (by omega) (by omega) hall hlen;have b1:=A3o (F:=F) (by omega) (by omega) (by omega) hall hlen;obtain ⟨s,a1,a2,a3,a4⟩:=A3j (F:=F) (by omega) (by omega) (by omega) hall hlen;unfold Lg Mb;rw [ckb (by omega),Sv h1.1 (by omega),sb,ckb (by omega),sb,l1,sb,ckb (by omega),Sv h2.1 (by omega),sb,ckb (by omega),m1,sb,Au (by rfl),Ky (by simp;omega),List.nil_append,Ky (by simp only;omega),s1,sb,w1,sb,b1,sb,a1,sb,ckb (by omega),ckb (by omega),Au (by rfl),ckb (by simp only;omega)];simp only;have c1:decide (p.U>=16*w.U.Lo)=true:=decide_eq_true (by omega);have c2:decide (p.U<=16*w.U.Hi)=true:=decide_eq_true (by omega);have c3:decide (p.V>=16*w.V.Lo)=true:=decide_eq_true (by omega);have c4:decide (p.V<=16*w.V.Hi)=true:=decide_eq_true (by omega);have c5:decide (4*p.U-3*p.V>=80*s.Lo)=true:=decide_eq_true (by omega);have c6:decide (4*p.U-3*p.V<=80*s.Hi)=true:=decide_eq_true (by omega);have gT:∀{α:Type} {o:Option α} {d:α},gd (true==true&&true) o d=o:=λ{_ _ _}=>rfl;have bT:∀{α:Type} {x y:α},(bif true then x else y)=x:=λ{_ _ _}=>rfl;rw [c1,gT,ckb (by omega)];simp only [c2,bT];rw [gT,ckb (by omega)];simp only [c3,bT];rw [gT,ckb (by omega)];simp only [c4,bT];rw [gT,ckb (by omega),gT,ckb (by omega),gT,ckb (by omega),gT,ckb (by omega)];simp only [c5,bT];rw [gT,ckb (by omega),gT,ckb (by omega),gT,ckb (by omega),gT,ckb (by omega)];simp only [c6,bT];rw [gT,hw,sb]
end Go.Proofs.YtkdhnnfokfchpaaGreat
