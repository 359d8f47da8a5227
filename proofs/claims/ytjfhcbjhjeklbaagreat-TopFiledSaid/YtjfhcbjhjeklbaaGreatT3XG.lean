import Derived.Test.YtjfhcbjhjeklbaaGreatT3XP
import Derived.Test.YtjfhcbjhjeklbaaGreatT3WkD
set_option linter.unusedVariables false
set_option linter.unusedSimpArgs false
set_option linter.unusedSectionVars false
namespace Go.Proofs.YtjfhcbjhjeklbaaGreat
open Go Go.RowKit Go.Eng
set_option maxRecDepth 10000
set_option linter.unusedVariables false
set_option linter.unusedSimpArgs false
variable {x a b t:Int} {y y2 y3:Int×mosaic_reader} {B:List (mosaic_Key×List (List api_Span))} {n F r P i:Nat} {g:api_Grid} {s:mosaic_Spec} {L:List mosaic_Key} {k:mosaic_Key} {l p1:List Int} {N N':mosaic_Node} {m:mosaic_Message} {α:Type} {acc:List api_Span} {y1:List Int×mosaic_reader}
theorem ckS (h:-9000000000000000000<=x/\x<=9000000000000000000):ck x=some x:=by
 unfold ck;rw [if_pos (by omega)]
theorem B0a (h:-9000000000000000000<=x/\x<=9000000000000000000):IntKind.i64.wrap x=x:=by rw [IntKind.wrap_i64];omega
theorem A1b {y A B:Int} (b:-A<=x/\x<=A) (c:-B<=y/\y<=B):-(A*B)<=x*y/\x*y<=A*B:=by
 have h1:(x*y).natAbs<=A.natAbs*B.natAbs:=by rw [Int.natAbs_mul];exact Nat.mul_le_mul (by omega) (by omega)
 have d:0<=A*B:=Int.mul_nonneg (by omega) (by omega);have e:(A*B).natAbs=A.natAbs*B.natAbs:=Int.natAbs_mul A B;omega
theorem Qv {y A B:Int} (b:0<=x/\x<=A) (c:0<=y/\y<=B):0<=x*y/\x*y<=A*B :=
 ⟨Int.mul_nonneg b.1 c.1,(A1b (A:=A) (B:=B) ⟨by omega,b.2⟩ ⟨by omega,c.2⟩).2⟩
theorem A71 {β:Type} {y:Int} {f:Int->Option β} (b:0<=x) (c:x<=9000000000000000000) (d:0<y):(Mc x y).bind f=f (x/y):=by
 unfold Mc;rw [if_neg (by omega),Int.tdiv_eq_ediv_of_nonneg b,ckb];have h1:0<=x/y:=Int.ediv_nonneg b (by omega);have e:x/y<=x:=Int.ediv_le_self _ b;omega
structure VS (s:api_Site):Prop where
 x:-1048576<=s.X/\s.X<=1048576
 y:-1048576<=s.Y/\s.Y<=1048576
 z:0<=s.Z/\s.Z<=20000
 rose:1<=s.Rose/\s.Rose<=90
 gates:1<=s.Gates/\s.Gates<=200
 step:50<=s.Step/\s.Step<=2000
 width:0<=s.Width/\s.Width<=8
structure VG (g:api_Grid):Prop where
 x:-1048576<=g.X/\g.X<=1048576
 y:-1048576<=g.Y/\g.Y<=1048576
 size:1<=g.Size/\g.Size<=10000
 wide:1<=g.Wide/\g.Wide<=64
 high:1<=g.High/\g.High<=64
theorem P5 {n:Int} (h:a<=n/\n<=b):Af n a b=true:=by unfold Af;rw [dT h.1,dT h.2];rfl
theorem V3 (h:VG g):Dh F g=some 0:=by
 unfold Dh Dr;rw [P5 h.x,P5 h.y,P5 h.size,P5 h.wide,P5 h.high];rfl
def slt (t:Int):beam_slant:=⟨262144-t*t,1024*t,262144+t*t⟩
theorem sqB (h:-264<=t/\t<=264):0<=t*t/\t*t<=69696:=by
 have h1:=A1b (A:=264) (B:=264) h h;have b:0<=t*t:=by
  rcases Int.le_total 0 t with h|h
  ·exact Int.mul_nonneg h h
  ·exact Int.mul_nonneg_of_nonpos_of_nonpos h h
 exact ⟨b,by omega⟩
theorem Q4 (h:-264<=t/\t<=264):Fx F t=some (slt t):=by
 have h1:=sqB h;unfold Fx;rw [ckb (by omega),ckb (by omega),ckb (by omega),ckb (by omega),ckb (by omega)];rfl
theorem Zm {s:api_Site} {j:Int} (hs:VS s) (c:0<=t/\t<=256) (hj:0<=j/\j<=200):∃b,Kk F j s (slt t)=some b/\0<=b/\b<=400000:=by
 have h1:=sqB (t:=t) (by omega);have d:=hs.step;have e:=Qv (x:=j) (y:=s.Step) (A:=200) (B:=2000) hj (by omega);have f:=Qv (x:=j*s.Step) (y:=262144-t*t) (A:=400000) (B:=262144) (by omega) (by omega);refine ⟨(j*s.Step*(262144-t*t))/(262144+t*t),?_,Int.ediv_nonneg (by omega) (by omega),?_⟩
 ·unfold Kk slt;dsimp only;rw [ckb (by omega),ckb (by omega),A71 (by omega) (by omega) (by omega)]
 ·refine Int.ediv_le_of_le_mul (by omega) ?_;have g:j*s.Step*(262144-t*t)<=400000*(262144-t*t):=Int.mul_le_mul_of_nonneg_right (by omega) (by omega);omega
theorem B5i {s:api_Site} {w:Int} (hs:VS s) (f:0<=t/\t<=256):∀(n:Nat) (lo hi:Int),0<=lo->lo<hi->hi<=s.Gates->hi-lo<=n->∃j,Kx F s w (slt t) n lo hi=some j/\0<=j/\j<s.Gates:=by
 intro n;have k:=hs.gates
 induction n with
 | zero=>intro lo hi _ _ _ h;omega
 | succ n ih =>
  intro lo hi c h1 g l;unfold Kx Pf;rw [ckb (by omega)]
  by_cases d:hi-lo>1
  ·rw [Bx (dT d),ckb (by omega),A71 (by omega) (by omega) (by omega)];obtain ⟨b,hb,b0,b1⟩:=Zm (F:=F) (t:=t) (j:=(lo+hi)/2) hs f (by omega);have i:=Qv (x:=b) (y:=b) ⟨b0,b1⟩ ⟨b0,b1⟩;rw [hb,sbd,sbd,ckb (by omega)]
   by_cases e:b*b<=w
   ·rw [Bx (dT e)];exact ih _ _ (by omega) (by omega) g (by omega)
   ·rw [Aq (dF e)];exact ih _ _ c (by omega) (by omega) (by omega)
  ·rw [Aq (dF d)];exact ⟨lo,rfl,c,by omega⟩
theorem B0r {s:api_Site} {w:Int} (f:200<=F) (hs:VS s) (c:0<=t/\t<=256):∃j,R1 F s t w=some j/\j<s.Gates/\-1<=j:=by
 have g:=hs.gates;obtain ⟨b,hb,b0,b1⟩:=Zm (F:=F) (t:=t) (j:=s.Gates) hs c (by omega);have e:=Qv (x:=b) (y:=b) ⟨b0,b1⟩ ⟨b0,b1⟩;unfold R1;rw [Q4 (by omega),sbd,hb,sbd,ckb (by omega)]
 by_cases d:w>=b*b
 ·rw [Bx (dT d)];exact ⟨-1,rfl,by omega,by omega⟩
 ·rw [Aq (dF d)];obtain ⟨j,hj,j0,j1⟩:=B5i (F:=F) (w:=w) hs c F 0 s.Gates (by omega) (by omega) (by omega) (by omega);exact ⟨j,hj,j1,by omega⟩
theorem A0x {r:Int} (c:1<=r/\r<=90) (b:0<=a/\a<r):Kj F r a=some ⟨2*r*a,r*r-a*a,r*r+a*a⟩:=by
 have h1:=Qv (x:=r) (y:=r) (A:=90) (B:=90) (by omega) (by omega);have d:=Qv (x:=a) (y:=a) (A:=90) (B:=90) (by omega) (by omega);have e:=Qv (x:=2*r) (y:=a) (A:=180) (B:=90) (by omega) (by omega);have e1:J9 a r=some a:=by unfold J9;rw [if_neg (by omega),Int.tmod_eq_of_lt b.1 b.2]
 have e2:Mc a r=some 0:=by unfold Mc;rw [if_neg (by omega),Int.tdiv_eq_zero_of_lt b.1 b.2];rfl
 unfold Kj;rw [e1,sbd,ckb (by omega),ckb (by omega),ckb (by omega),ckb (by omega),ckb (by omega),ckb (by omega),ckb (by omega),ckb (by omega),e2,sbd];rfl
theorem B6c {r y q:Int} (c:1<=r/\r<=90) (d:-10000000<=x/\x<=10000000) (e:-10000000<=y/\y<=10000000) (f:0<=q/\q<=4):∀(n:Nat) (lo hi:Int),0<=lo->lo<hi->hi<=r->hi-lo<=n->∃j,M5 F r x y q n lo hi=some j/\0<=j/\j<=450:=by
 intro n
 induction n with
 | zero=>intro lo hi _ _ _ h;omega
 | succ n ih =>
  intro lo hi g h1 i l;unfold M5 Qg;rw [ckb (by omega)]
  by_cases b:hi-lo>1
  ·rw [Bx (dT b),ckb (by omega),A71 (by omega) (by omega) (by omega),A0x c (by omega),sbd];obtain ⟨m,k⟩:∃m,m=(lo+hi)/2:=⟨_,rfl⟩;rw [←k];have k1:=Qv (x:=r) (y:=r) (A:=90) (B:=90) (by omega) (by omega);have k2:=Qv (x:=m) (y:=m) (A:=90) (B:=90) (by omega) (by omega);have k3:=Qv (x:=2*r) (y:=m) (A:=180) (B:=90) (by omega) (by omega);have k4:=A1b (x:=r*r-m*m) (y:=x) (A:=16200) (B:=10000000) (by omega) d;have k5:=A1b (x:=2*r*m) (y:=y) (A:=16200) (B:=10000000) (by omega) e;unfold Kb;dsimp only;rw [ckb (by omega),ckb (by omega),sbd]
   cases decide ((r*r-m*m)*x>=2*r*m*y) with
   | true=>exact ih _ _ (by omega) (by omega) i (by omega)
   | false=>exact ih _ _ g (by omega) (by omega) (by omega)
  ·rw [Aq (dF b)];have k1:=Qv (x:=q) (y:=r) (A:=4) (B:=90) f (by omega);unfold Qi;rw [ckb (by omega),ckb (by omega)];exact ⟨_,rfl,by omega,by omega⟩
theorem B4f {r y:Int} (i:100<=F) (f:1<=r/\r<=90) (b:-10000000<=x/\x<=10000000) (c:-10000000<=y/\y<=10000000) (k:¬(x=0/\y=0)):∃j,Su F r x y=some j/\0<=j/\j<=450:=by
 have step:∀(n:Nat) (x y q:Int),-10000000<=x/\x<=10000000->-10000000<=y/\y<=10000000->0<=q/\q<=4 ->
   ((x<0\/y<=0)/\Gy F r (n+1) x y q=Gy F r n (-y) x (q+1))\/(¬(x<0\/y<=0)/\∃j,Gy F r (n+1) x y q=some j/\0<=j/\j<=450):=by
  intro n x y q b c g
  by_cases d:x<0\/y<=0
  ·refine .inl ⟨d,?_⟩;rw [Gy];unfold Nr;have e:(bif (decide (x<0)) then true else (decide (y<=0)))=true:=by
    rcases d with h|h
    ·rw [dT h];rfl
    ·rw [dT h];cases decide (x<0)<;>rfl
   rw [e,cond_true,ckb (by omega),B0a (by omega),show 0-y=-y by omega]
  ·refine .inr ⟨d,?_⟩;rw [Gy];unfold Nr Qh;have e:(bif (decide (x<0)) then true else (decide (y<=0)))=false:=by rw [dF (by omega),dF (by omega)];rfl
   rw [e,cond_false];exact B6c f b c g F 0 r (by omega) (by omega) (by omega) (by omega)
 obtain ⟨n,rfl⟩:∃n,F=n+4:=⟨F-4,by omega⟩;unfold Su;rcases step (n+3) x y 0 b c (by omega) with ⟨c1,e1⟩|⟨_,h⟩
 ·rw [e1];rcases step (n+2) (-y) x (0+1) (by omega) b (by omega) with ⟨c2,e2⟩|⟨_,h⟩
  ·rw [e2];rcases step (n+1) (-x) (-y) (0+1+1) (by omega) (by omega) (by omega) with ⟨c3,e3⟩|⟨_,h⟩
   ·rw [e3];rcases step n (- -y) (-x) (0+1+1+1) (by omega) (by omega) (by omega) with ⟨c4,e4⟩|⟨_,h⟩
    ·omega
    ·exact h
   ·exact h
  ·exact h
 ·exact h
theorem B0q {s:api_Site} {y:Int} (f:200<=F) (hs:VS s) (g:0<=t/\t<=256) (k:-3000000<=x/\x<=3000000) (l:-3000000<=y/\y<=3000000) :
  ∃a j b,R0 F s t x y=some (a,j,b)/\(0<=a/\a<=450)/\(0<=j/\j<s.Gates):=by
 have h1:=hs.x;have m:=hs.y;have n:=hs.gates;unfold R0;rw [ckb (by omega),ckb (by omega)]
 by_cases c:x-s.X=0/\y-s.Y=0
 ·rw [c.1,c.2];exact ⟨0,0,true,rfl,by omega,by omega⟩
 ·have e:(bif (x-s.X==0) then (y-s.Y==0) else false)=false:=by
   cases h:(x-s.X==0) with
   | false=>rfl
   | true =>
    cases h':(y-s.Y==0) with
    | false=>rfl
    | true=>exact absurd ⟨by simpa using h,by simpa using h'⟩ c
  have k1:=A1b (x:=x-s.X) (y:=x-s.X) (A:=5000000) (B:=5000000) (by omega) (by omega);have k2:=A1b (x:=y-s.Y) (y:=y-s.Y) (A:=5000000) (B:=5000000) (by omega) (by omega);rw [Aq e,ckb (by omega),ckb (by omega),ckb (by omega)];obtain ⟨j,hj,j1,j0⟩:=B0r (F:=F) (t:=t) (w:=(x-s.X)*(x-s.X)+(y-s.Y)*(y-s.Y)) f hs g;rw [hj,sbd]
  by_cases d:j<0
  ·rw [Bx (dT d)];exact ⟨0,0,false,rfl,by omega,by omega⟩
  ·rw [Aq (dF d)];obtain ⟨a,i,a0,a1⟩:=B4f (F:=F) (r:=s.Rose) (x:=x-s.X) (y:=y-s.Y) (by omega) hs.rose (by omega) (by omega) c;rw [i,sbd];exact ⟨a,j,true,rfl,by omega,by omega⟩
theorem B28 {s:api_Site} {row:Int} (i:200<=F) (hs:VS s) (d:VG g) (k:0<=t/\t<=256) (r:0<=row/\row<64) (k2:List Int->Int->Option (List Int×Int)) :
  ∀(n:Nat) (m:Nat) (l:List Int) (c:Int),0<=c->c+m=g.Wide->m<n->l.length+m<=10000->∃l',Jd F s t g row k2 n l c=k2 l' (row+1)/\l'.length=l.length+m:=by
 have u:=d.wide;have hz:=d.size;have z:=d.x;have hY:=d.y;intro n
 induction n with
 | zero=>intro m l c _ _ h;omega
 | succ n ih =>
  intro m l c h0 h1 h2 h3;rw [Jd];unfold Pd
  by_cases f:c<g.Wide
  ·have k1:=Qv (x:=c) (y:=g.Size) (A:=64) (B:=10000) (by omega) (by omega);have k2':=Qv (x:=row) (y:=g.Size) (A:=64) (B:=10000) (by omega) (by omega);rw [Bx (dT f),ckb (by omega),ckb (by omega),A71 (by omega) (by omega) (by omega),ckb (by omega),ckb (by omega),ckb (by omega),A71 (by omega) (by omega) (by omega),ckb (by omega)];obtain ⟨a,j,b,o,p,hj⟩:=B0q (F:=F) (t:=t) (x:=g.X+c*g.Size+g.Size/2) (y:=g.Y+row*g.Size+g.Size/2) i hs k (by omega) (by omega);rw [o,sbd];have q:=hs.gates;have k3:=Qv (x:=a) (y:=s.Gates) (A:=450) (B:=200) p (by omega);have fin:∀v:Int,∃l',Kw l c (Jd F s t g row k2 n) v=k2 l' (row+1)/\l'.length=l.length+m:=by
    intro v;unfold Kw;rw [Me (by simp;omega) (by decide),ckb (by omega)];obtain ⟨l',e,h⟩:=ih (m-1) (l++[v]) (c+1) (by omega) (by omega) (by omega) (by simp;omega);exact ⟨l',e,by rw [h];simp;omega⟩
   cases b with
   | true =>
    simp only [cond_true];rw [ckb (by omega),ckb (by omega)];exact fin _
   | false=>exact fin _
  ·rw [Aq (dF f)];unfold Pe;rw [ckb (by omega)];exact ⟨l,rfl,by omega⟩
theorem B27 {s:api_Site} (f:200<=F) (hs:VS s) (b:VG g) (i:0<=t/\t<=256) :
  ∀(n:Nat) (m:Nat) (l:List Int) (r:Int),0<=r->r+m=g.High->m<n->l.length+m*g.Wide.toNat<=5000->∃l',Jc F s t g n l r=some (l',0)/\l'.length=l.length+m*g.Wide.toNat:=by
 have p:=b.wide;have q:=b.high;intro n
 induction n with
 | zero=>intro m l c _ _ h;omega
 | succ n ih =>
  intro m l r u h1 v j;rw [Jc];unfold Pc
  by_cases d:r<g.High
  ·rw [Bx (dT d)];obtain ⟨l',e,x⟩:=B28 (F:=F) (s:=s) (t:=t) (g:=g) (row:=r) f hs b i (by omega) (Jc F s t g n) F g.Wide.toNat l 0 (by omega) (by omega) (by omega) (by omega);rw [e];obtain ⟨k,rfl⟩:∃k,m=k+1:=⟨m-1,by omega⟩;rw [Nat.add_mul] at j ⊢;obtain ⟨l2,e2,o⟩:=ih k l' (r+1) (by omega) (by omega) (by omega) (by omega);exact ⟨l2,e2,by omega⟩
  ·rw [Aq (dF d)];have:m=0:=by omega
   subst this;exact ⟨l,rfl,by simp⟩
theorem B0h {s:api_Site} (d:200<=F) (f:beam_CheckSite F s=some 0) (hs:VS s) (b:VG g) (c:0<=t/\t<=256) :
  ∃l,My F s t g=some (l,0)/\l.length=(g.Wide*g.High).toNat:=by
 have j:=b.wide;have k:=b.high;have k1:=Qv (x:=g.Wide) (y:=g.High) (A:=64) (B:=64) (by omega) (by omega);have k2:((g.High.toNat*g.Wide.toNat:Nat):Int)=g.Wide*g.High:=by
  rw [Int.natCast_mul,Int.toNat_of_nonneg (by omega),Int.toNat_of_nonneg (by omega),Int.mul_comm]
 unfold My;rw [f,sbd,V3 b,sbd,P5 c];simp only [bne_self_eq_false,cond_false,Bool.not_true];rw [ckb (by omega),show mk0 8 (g.Wide*g.High)=some (g.Wide*g.High).toNat from by unfold mk0;rw [if_pos (by omega)],sbd];obtain ⟨l,e,i⟩:=B27 (F:=F) (t:=t) d hs b c F g.High.toNat [] 0 (by omega) (by omega) (by omega) (by simp;omega);exact ⟨l,e,by rw [i];simp;omega⟩
theorem Vd {f:Int} (hb:0<b) (h1:f*b<=a) (c:a<f*b+b):a/b=f:=by
 have g1:=Int.ediv_mul_le a (show b≠0 by omega);have g2:a<a/b*b+b:=by have:=Int.lt_ediv_add_one_mul_self a hb;rw [Int.add_mul] at this;omega
 rcases Int.lt_trichotomy (a/b) f with h|h|h
 ·have:=Int.mul_le_mul_of_nonneg_right (show a/b+1<=f by omega) (show 0<=b by omega);rw [Int.add_mul] at this;omega
 ·exact h
 ·have:=Int.mul_le_mul_of_nonneg_right (show f+1<=a/b by omega) (show 0<=b by omega);rw [Int.add_mul] at this;omega
theorem Q8 (a b:Int) (hb:0<b):(0<=a/\a.tdiv b=a/b)\/(a<0/\a.tdiv b=-(-a/b)):=by
 rcases Int.lt_or_le a 0 with h|h
 ·right;refine ⟨h,?_⟩;have e:a=- -a:=by omega
  have:(- -a).tdiv b=-((-a).tdiv b):=Int.neg_tdiv (-a) b;rw [e,this,Int.tdiv_eq_ediv_of_nonneg (by omega),Int.neg_neg]
 ·exact .inl ⟨h,Int.tdiv_eq_ediv_of_nonneg h⟩
theorem A07 {A:Int} (hb:0<b) (c:-A<=a/\a<=A):-A<=a.tdiv b/\a.tdiv b<=A:=by
 rcases Q8 a b hb with ⟨h,e⟩|⟨h,e⟩
 ·rw [e];have:=Int.ediv_le_self b h;have:=Int.ediv_nonneg h (show 0<=b by omega);omega
 ·rw [e];have:=Int.ediv_le_self b (show 0<=-a by omega);have:=Int.ediv_nonneg (show 0<=-a by omega) (show 0<=b by omega);omega
theorem Gs (a:Int) (hb:0<b):a/b*b<=a/\a<a/b*b+b:=by
 refine ⟨Int.ediv_mul_le a (by omega),?_⟩;have:=Int.lt_ediv_add_one_mul_self a hb;rw [Int.add_mul] at this;omega
theorem A0y (hb:0<b) (d:-1000000000000000000<=a/\a<=1000000000000000000):Mz F a b=some (a/b):=by
 have i:=A07 hb d;have j:-2000000000000000000<=a.tdiv b*b/\a.tdiv b*b<=2000000000000000000:=by
  rcases Q8 a b hb with ⟨h,e⟩|⟨h,e⟩
  ·have:=Gs a hb;have g:0<=a/b*b:=Int.mul_nonneg (Int.ediv_nonneg h (by omega)) (by omega);rw [e];omega
  ·have:=Gs (-a) hb;have g:0<=-a/b*b:=Int.mul_nonneg (Int.ediv_nonneg (by omega) (by omega)) (by omega);rw [e,Int.neg_mul];omega
 unfold Mz Mc;rw [if_neg (by omega),ckb (by omega),ckb (by omega)]
 by_cases c:a.tdiv b*b>a
 ·rw [Bx (dT c),ckb (by omega)];rcases Q8 a b hb with ⟨h,e⟩|⟨h,e⟩
  ·have:=Gs a hb;rw [e] at c;omega
  ·have k:=Gs (-a) hb;rw [Vd (f:=a.tdiv b-1) hb]
   ·rw [e,Int.sub_mul,Int.neg_mul];omega
   ·rw [Int.sub_mul];omega
 ·rw [Aq (dF c),Vd (f:=a.tdiv b) hb]
  ·omega
  ·rcases Q8 a b hb with ⟨h,e⟩|⟨h,e⟩
   ·have:=Gs a hb;rw [e];omega
   ·have:=Gs (-a) hb;rw [e,Int.neg_mul] at c ⊢;omega
theorem B03 (hb:0<b) (d:-1000000000000000000<=a/\a<=1000000000000000000):Rr F a b=some (-(-a/b)):=by
 have i:=A07 hb d;have j:-2000000000000000000<=a.tdiv b*b/\a.tdiv b*b<=2000000000000000000:=by
  rcases Q8 a b hb with ⟨h,e⟩|⟨h,e⟩
  ·have:=Gs a hb;have g:0<=a/b*b:=Int.mul_nonneg (Int.ediv_nonneg h (by omega)) (by omega);rw [e];omega
  ·have:=Gs (-a) hb;have g:0<=-a/b*b:=Int.mul_nonneg (Int.ediv_nonneg (by omega) (by omega)) (by omega);rw [e,Int.neg_mul];omega
 unfold Rr Mc;rw [if_neg (by omega),ckb (by omega),ckb (by omega)]
 by_cases c:a.tdiv b*b<a
 ·rw [Bx (dT c),ckb (by omega)];rcases Q8 a b hb with ⟨h,e⟩|⟨h,e⟩
  ·have k:=Gs a hb;rw [Vd (f:=-(a.tdiv b+1)) hb]
   ·rw [Int.neg_neg]
   ·rw [e,Int.neg_mul,Int.add_mul];omega
   ·rw [Int.neg_mul,Int.add_mul];omega
  ·have:=Gs (-a) hb;rw [e,Int.neg_mul] at c;omega
 ·rw [Aq (dF c),Vd (f:=-(a.tdiv b)) hb]
  ·rw [Int.neg_neg]
  ·rw [Int.neg_mul];omega
  ·rcases Q8 a b hb with ⟨h,e⟩|⟨h,e⟩
   ·have:=Gs a hb;rw [e] at c ⊢;rw [Int.neg_mul];omega
   ·have:=Gs (-a) hb;rw [e,Int.neg_neg];omega
def gLo (L t:Int):Int:=L*(262144-t*t)/(2*(262144+t*t))
def gHi (L t:Int):Int:=-(-(L*(262144-t*t))/(2*(262144+t*t)))
def loZ (L t e:Int):Int:=L*(1024*t)/(2*(262144+t*t))+gLo L t*gLo L t/(2*e)
def hiZ (L t e:Int):Int:=-(-(L*(1024*t))/(2*(262144+t*t))) + -(-(gHi L t*gHi L t)/(2*e))
theorem Pm {A:Int} (hb:0<b) (d:0<=A) (c:-(A*b)<=a/\a<=A*b):-A<=a/b/\a/b<=A:=by
 refine ⟨?_,Int.ediv_le_of_le_mul hb c.2⟩;exact (Int.le_ediv_iff_mul_le hb).2 (by rw [Int.neg_mul];exact c.1)
theorem gB {L:Int} (c:0<=L/\L<=1000000) (d:-264<=t/\t<=264):(-1000000<=gLo L t/\gLo L t<=1000000)/\(-1000000<=gHi L t/\gHi L t<=1000000)/\(0<=L*(262144-t*t)/\L*(262144-t*t)<=1000000*262144)/\(-(1000000*270336)<=L*(1024*t)/\L*(1024*t)<=1000000*270336):=by
 have h1:=sqB d;have e:=Qv (x:=L) (y:=262144-t*t) (A:=1000000) (B:=262144) c (by omega);have f:=A1b (x:=L) (y:=1024*t) (A:=1000000) (B:=270336) (by omega) (by omega);refine ⟨Pm (by omega) (by omega) (by omega),?_,e,f⟩;have:=Pm (a:=-(L*(262144-t*t))) (b:=2*(262144+t*t)) (A:=1000000) (by omega) (by omega) (by omega);unfold gHi;omega
theorem A33 {s:api_Site} {g:Int} (hs:1<=s.Step/\s.Step<=2000) (c:0<=g/\g<=200) (b:-264<=t/\t<=264):Hu F s t g=some (gLo ((2*g+1)*s.Step) t):=by
 have h1:=sqB b;have d:=Qv (x:=2*g+1) (y:=s.Step) (A:=401) (B:=2000) (by omega) (by omega);have e:=gB (L:=(2*g+1)*s.Step) (t:=t) (by omega) b;unfold Hu;rw [Q4 b,sbd];unfold slt;dsimp only;rw [ckb (by omega),ckb (by omega),ckb (by omega),ckb (by omega),ckb (by omega),A0y (by omega) (by omega)];rfl
theorem A34 {s:api_Site} {g:Int} (hs:1<=s.Step/\s.Step<=2000) (c:0<=g/\g<=200) (b:-264<=t/\t<=264):Hv F s t g=some (gHi ((2*g+1)*s.Step) t):=by
 have h1:=sqB b;have d:=Qv (x:=2*g+1) (y:=s.Step) (A:=401) (B:=2000) (by omega) (by omega);have e:=gB (L:=(2*g+1)*s.Step) (t:=t) (by omega) b;unfold Hv;rw [Q4 b,sbd];unfold slt;dsimp only;rw [ckb (by omega),ckb (by omega),ckb (by omega),ckb (by omega),ckb (by omega),B03 (by omega) (by omega)];rfl
theorem A4l {s:api_Site} {g e:Int} (hs:1<=s.Step/\s.Step<=2000) (hz:0<=s.Z/\s.Z<=20000) (d:0<=g/\g<=200) (c:-264<=t/\t<=264) (he:1000000<=e/\e<=100000000):Jp F s t g e=some (s.Z+loZ ((2*g+1)*s.Step) t e):=by
 have h1:=sqB c;have f:=Qv (x:=2*g+1) (y:=s.Step) (A:=401) (B:=2000) (by omega) (by omega);obtain ⟨g1,_,_,g4⟩:=gB (L:=(2*g+1)*s.Step) (t:=t) (by omega) c;have i:=A1b (x:=gLo ((2*g+1)*s.Step) t) (y:=gLo ((2*g+1)*s.Step) t) (A:=1000000) (B:=1000000) g1 g1;have b1:=Pm (a:=(2*g+1)*s.Step*(1024*t)) (b:=2*(262144+t*t)) (A:=1000000) (by omega) (by omega) (by omega);have b2:=Pm (a:=gLo ((2*g+1)*s.Step) t*gLo ((2*g+1)*s.Step) t) (b:=2*e) (A:=1000000) (by omega) (by omega) (by omega);unfold Jp;rw [Q4 c,sbd,A33 hs d c,sbd];unfold slt;dsimp only;rw [ckb (by omega),ckb (by omega),ckb (by omega),ckb (by omega),ckb (by omega),ckb (by omega),ckb (by omega),A0y (by omega) (by omega),sbd,ckb (by omega),A0y (by omega) (by omega),sbd,ckb (by omega),Int.add_assoc];rfl
theorem A4m {s:api_Site} {g e:Int} (hs:1<=s.Step/\s.Step<=2000) (hz:0<=s.Z/\s.Z<=20000) (d:0<=g/\g<=200) (c:-264<=t/\t<=264) (he:1000000<=e/\e<=100000000):Jq F s t g e=some (s.Z+hiZ ((2*g+1)*s.Step) t e):=by
 have h1:=sqB c;have f:=Qv (x:=2*g+1) (y:=s.Step) (A:=401) (B:=2000) (by omega) (by omega);obtain ⟨_,g1,_,g4⟩:=gB (L:=(2*g+1)*s.Step) (t:=t) (by omega) c;have i:=A1b (x:=gHi ((2*g+1)*s.Step) t) (y:=gHi ((2*g+1)*s.Step) t) (A:=1000000) (B:=1000000) g1 g1;have b1:=Pm (a:=-((2*g+1)*s.Step*(1024*t))) (b:=2*(262144+t*t)) (A:=1000000) (by omega) (by omega) (by omega);have b2:=Pm (a:=-(gHi ((2*g+1)*s.Step) t*gHi ((2*g+1)*s.Step) t)) (b:=2*e) (A:=1000000) (by omega) (by omega) (by omega);unfold Jq;rw [Q4 c,sbd,A34 hs d c,sbd];unfold slt;dsimp only;rw [ckb (by omega),ckb (by omega),ckb (by omega),ckb (by omega),ckb (by omega),ckb (by omega),ckb (by omega),B03 (by omega) (by omega),sbd,ckb (by omega),B03 (by omega) (by omega),sbd,ckb (by omega),Int.add_assoc];rfl
def VE (e:api_Span):Prop:=1000000<=e.Lo/\e.Lo<=e.Hi/\e.Hi<=100000000
def A7t (s:api_Site) (t:Int) (e:api_Span) (g:Int):api_Span:=⟨s.Z+loZ ((2*g+1)*s.Step) (t-s.Width) e.Hi,s.Z+hiZ ((2*g+1)*s.Step) (t+s.Width) e.Lo⟩
theorem B0d {s:api_Site} {g:Int} {e:api_Span} (b:beam_CheckSite F s=some 0) (hs:VS s) (he:VE e) (c:0<=t/\t<=256) (f:0<=g/\g<s.Gates):Qz F s t e g=some (A7t s t e g,0):=by
 obtain ⟨e1,e2,e3⟩:=he;have h1:=hs.gates;have i:=hs.step;have j:=hs.width;have d:He e=true:=by unfold He;rw [dT e1,dT e2,dT e3];rfl
 unfold Qz;rw [b,sbd,P5 c,d];simp only [bne_self_eq_false,cond_false,Bool.not_true,Bool.and_true,beq_self_eq_true];rw [gdT rfl,ckb (by omega),P5 (by omega)];simp only [cond_false,Bool.not_true];rw [ckb (by omega),ckb (by omega),A4l (by omega) hs.z (by omega) (by omega) (by omega),sbd,A4m (by omega) hs.z (by omega) (by omega) (by omega),sbd];rfl
section
variable {κ ν:Type} [DecidableEq κ]
theorem X6 (B:List (κ×ν)) (k x:κ) (v:ν):lkM (upM B k v) x=if x=k then some v else lkM B x:=by
 induction B with
 | nil=>rfl
 | cons p B ih =>
  unfold upM
  by_cases h:k=p.1
  ·rw [if_pos h];unfold lkM;subst h
   by_cases b:x=p.1
   ·rw [if_pos b,if_pos b]
   ·rw [if_neg b,if_neg b,if_neg b]
  ·rw [if_neg h];unfold lkM
   by_cases b:x=p.1
   ·rw [if_pos b,if_neg (by rw [b];exact λe=>h e.symm),if_pos b]
   ·rw [if_neg b,ih]
    by_cases c:x=k
    ·rw [if_pos c,if_pos c]
    ·rw [if_neg c,if_neg c,if_neg b]
theorem A5r (B:List (κ×ν)) (k:κ) (v:ν):lkM (upM B k v) k=some v:=by rw [X6,if_pos rfl]
theorem A8v {B:List (κ×ν)} {k:κ} {v:ν} (h:lkM B k=some v):(k,v)∈B:=by
 induction B with
 | nil=>cases h
 | cons p B ih =>
  unfold lkM at h
  by_cases b:k=p.1
  ·rw [if_pos b] at h;cases h;subst b;exact .head _
  ·rw [if_neg b] at h;exact .tail _ (ih h)
theorem A1a {B:List (κ×ν)} {k:κ}:(∃v,lkM B k=some v)↔k∈B.map (·.1):=by
 induction B with
 | nil=>simp [lkM]
 | cons p B ih =>
  unfold lkM
  by_cases b:k=p.1
  ·simp [b]
  ·rw [if_neg b,ih];simp [b]
theorem B4t {B:List (κ×ν)} {k:κ} {v:ν} {p:κ×ν} (h:p∈upM B k v):p=(k,v)\/p∈B:=by
 induction B with
 | nil=>simp [upM] at h;exact .inl h
 | cons q B ih =>
  unfold upM at h
  by_cases b:k=q.1
  ·rw [if_pos b] at h;rcases List.mem_cons.1 h with h|h
   ·exact .inl h
   ·exact .inr (.tail _ h)
  ·rw [if_neg b] at h;rcases List.mem_cons.1 h with h|h
   ·exact .inr (h▸.head _)
   ·rcases ih h with h|h
    ·exact .inl h
    ·exact .inr (.tail _ h)
theorem B1y {B:List (κ×ν)} {k x:κ} {v:ν}:x∈(upM B k v).map (·.1)↔x=k\/x∈B.map (·.1):=by
 rw [←A1a,←A1a,X6]
 by_cases h:x=k
 ·simp [h]
 ·simp [h]
theorem B02 {B:List (κ×ν)} {k:κ} {v:ν} (b:(B.map (·.1)).Nodup):((upM B k v).map (·.1)).Nodup:=by
 induction B with
 | nil=>simp [upM]
 | cons q B ih =>
  rw [List.map_cons,List.nodup_cons] at b;unfold upM
  by_cases c:k=q.1
  ·rw [if_pos c,List.map_cons,List.nodup_cons];subst c;exact b
  ·rw [if_neg c,List.map_cons,List.nodup_cons];exact ⟨λh=>(B1y.1 h).elim (λe=>c e.symm) b.1,ih b.2⟩
end
def tot (B:List (mosaic_Key×List (List api_Span))):Nat:=(B.map λp=>p.2.length).sum
def kl (B:List (mosaic_Key×List (List api_Span))) (k:mosaic_Key):List (List api_Span):=(lkM B k).getD []
theorem B4r (B:List (mosaic_Key×List (List api_Span))) (k:mosaic_Key) (l:List (List api_Span)):tot (upM B k l)+(kl B k).length=tot B+l.length:=by
 induction B with
 | nil=>simp [tot,upM,kl,lkM]
 | cons p B ih =>
  unfold upM kl lkM
  by_cases h:k=p.1
  ·rw [if_pos h,if_pos h];simp [tot];omega
  ·rw [if_neg h,if_neg h];have e1:∀C,tot (p::C)=p.2.length+tot C:=λC=>by simp [tot]
   rw [e1,e1];have:((lkM B k).getD []).length=(kl B k).length:=rfl;omega
theorem A8t (B:List (mosaic_Key×List (List api_Span))) (k:mosaic_Key):(kl B k).length<=tot B:=by
 induction B with
 | nil=>simp [kl,lkM]
 | cons p B ih =>
  have e1:tot (p::B)=p.2.length+tot B:=by simp [tot]
  unfold kl lkM
  by_cases h:k=p.1
  ·rw [if_pos h,e1];simp
  ·rw [if_neg h,e1];have:((lkM B k).getD []).length=(kl B k).length:=rfl;omega
theorem A46 (h:∀p∈B,p.2≠[]):B.length<=tot B:=by
 induction B with
 | nil=>simp [tot]
 | cons p B ih =>
  have e1:tot (p::B)=p.2.length+tot B:=by simp [tot]
  have:=List.length_pos_iff.2 (h p (.head _));have:=ih λq b=>h q (.tail _ b);rw [e1,List.length_cons];omega
def c3 (a b:Int):Int:=if a<b then -1 else if b<a then 1 else 0
def N6 (x y:api_Span):Int:=if c3 x.Lo y.Lo≠0 then c3 x.Lo y.Lo else c3 x.Hi y.Hi
def G9:List api_Span->List api_Span->Int
 | [],[]=>0
 | [],_::_=>-1
 | _::_,[]=>1
 | x::a,y::b=>if N6 x y≠0 then N6 x y else G9 a b
theorem Mx (a b:Int):Ai a b=c3 a b:=by
 unfold Ai Dw c3;simp only [bne_self_eq_false,cond_false]
 by_cases h1:a<b
 ·rw [dT h1,if_pos h1];rfl
 ·by_cases c:b<a
  ·rw [dF h1,if_neg h1,if_pos c,dT c];rfl
  ·rw [dF h1,if_neg h1,if_neg c,dF c];rfl
def orL:List Int->Int
 | []=>0
 | x::l=>if x≠0 then x else orL l
theorem B3y (l:List Int):∀(n i:Nat),i<=l.length->l.length-i<n->l.length<1000000->Jy l n (i:Int)=some (orL (l.drop i)):=by
 intro n
 induction n with
 | zero=>intro i _ h;omega
 | succ n ih =>
  intro i hi d c;rw [Jy];unfold Nk
  by_cases b:i<l.length
  ·rw [Bx (dT (by omega)),Ej i l[i] rfl (List.getElem?_eq_getElem b),List.drop_eq_getElem_cons b];unfold orL
   by_cases h:l[i]=0
   ·rw [Aq (by simpa using h),if_neg (by simpa using h),ckb (by omega)];exact ih (i+1) (by omega) (by omega) c
   ·rw [Bx (by simpa using h),if_pos h]
  ·rw [Aq (dF (by omega)),List.drop_eq_nil_of_le (by omega)];rfl
theorem B2g (l:List Int) (h:l.length<F) (b:l.length<1000000):Pt F l=some (orL l):=by
 have:=B3y l F 0 (by omega) (by omega) b;rw [List.drop_zero] at this;exact this
theorem B7b (a b:Int):orL [a,b]=if a≠0 then a else b:=by
 show (if a≠0 then a else if b≠0 then b else 0)=_
 split
 ·rfl
 ·split<;>omega
theorem A25 (b:100<=F) (x y:api_Span):J1 F x y=some (N6 x y):=by
 unfold J1;rw [Mx,Mx,B2g _ (by simp;omega) (by simp),sbd,B7b];rfl
theorem B0l (f:100<=F) (a b:List api_Span) (g:a.length<1000000):∀(n i:Nat),i<=a.length->a.length-i<n ->
  Ah F a b n (i:Int)=some (if i<=b.length then G9 (a.drop i) (b.drop i) else if i<a.length then 1 else 0):=by
 intro n
 induction n with
 | zero=>intro i _ h;omega
 | succ n ih =>
  intro i hi j;rw [Ah];unfold Ax
  by_cases d:i<a.length
  ·rw [Bx (dT (by omega)),Ej i a[i] rfl (List.getElem?_eq_getElem d)]
   by_cases hb:i<b.length
   ·rw [Aq (dF (by omega)),Ej i b[i] rfl (List.getElem?_eq_getElem hb),A25 f,sbd,if_pos (by omega),List.drop_eq_getElem_cons d,List.drop_eq_getElem_cons hb];unfold G9
    by_cases h:N6 a[i] b[i]=0
    ·rw [Aq (by simpa using h),if_neg (by simpa using h),ckb (by omega)];have:=ih (i+1) (by omega) (by omega);rw [if_pos (by omega)] at this;exact this
    ·rw [Bx (by simpa using h),if_pos h]
   ·rw [Bx (dT (by omega))]
    by_cases c:i<=b.length
    ·rw [if_pos c,List.drop_eq_nil_of_le (show b.length<=i by omega),List.drop_eq_getElem_cons d];rfl
    ·rw [if_neg c,if_pos d]
  ·rw [Aq (dF (by omega))];unfold Ay;have e:a.drop i=[]:=List.drop_eq_nil_of_le (by omega)
   by_cases hb:a.length<b.length
   ·rw [Bx (dT (by omega)),if_pos (by omega),e,List.drop_eq_getElem_cons (l:=b) (by omega)];rfl
   ·rw [Aq (dF (by omega))]
    by_cases c:i<=b.length
    ·rw [if_pos c,e,List.drop_eq_nil_of_le (show b.length<=i by omega)];rfl
    ·rw [if_neg c,if_neg d]
theorem Y6 (c:100<=F) (a b:List api_Span) (f:a.length<F) (d:a.length<1000000):J0 F a b=some (G9 a b):=by
 unfold J0 B1;have:=B0l c a b d F 0 (by omega) (by omega);rw [if_pos (by omega),List.drop_zero,List.drop_zero] at this;have e:Ah F a b F 0=some (G9 a b):=this;rw [e];rfl
theorem B6y (h:0<=x/\x<=9000000000000000000):IntKind.u64.wrap x=x:=by
 have:=h.1;have:=h.2;simp only [IntKind.wrap,IntKind.signed,IntKind.bits];simp;omega
theorem A4p (g:100<=F) (l:List (List api_Span)) (v:List api_Span) (o:l.length<1000000) (k:∀x∈l,x.length<F/\x.length<1000000):∀(n i j:Nat),i<=j->j<=l.length->j-i<n ->
  ∃(r:Nat) (b:Bool),Aj F l v n (j:Int) (i:Int)=some ((r:Int),b)/\r<=l.length/\i<=r/\r<=j/\(b=true↔∃x,l[r]? = some x/\G9 x v=0)/\(r=i\/∃x,l[r-1]? = some x/\G9 x v<0)/\(r=j\/∃x,l[r]? = some x/\¬G9 x v<0):=by
 intro n
 induction n with
 | zero=>intro i j _ _ h;omega
 | succ n ih =>
  intro i j m hj p;rw [Aj];unfold B4
  by_cases q:i<j
  ·have d:(i+j)/2<l.length:=by omega
   rw [Bx (dT (by omega)),ckb (by omega),B6y (by omega),Int.fdiv_eq_ediv_of_nonneg _ (by omega),ckb (by omega),Ej ((i+j)/2) l[(i+j)/2] (by omega) (List.getElem?_eq_getElem d)];obtain ⟨h1,f⟩:=k _ (List.getElem_mem d);rw [Y6 g _ _ h1 f,sbd]
   by_cases c:G9 l[(i+j)/2] v<0
   ·rw [Bx (dT c),ckb (by omega),show ((i:Int)+(j:Int))/2+1=(((i+j)/2+1:Nat):Int) by omega];obtain ⟨r,b,e,r1,r2,r3,r4,r5,r6⟩:=ih ((i+j)/2+1) j (by omega) hj (by omega);refine ⟨r,b,e,r1,by omega,r3,r4,.inr ?_,r6⟩;rcases r5 with h|h
    ·exact ⟨_,by rw [h,Nat.add_sub_cancel];exact List.getElem?_eq_getElem d,c⟩
    ·exact h
   ·rw [Aq (dF c),show ((i:Int)+(j:Int))/2=(((i+j)/2:Nat):Int) by omega];obtain ⟨r,b,e,r1,r2,r3,r4,r5,r6⟩:=ih i ((i+j)/2) (by omega) (by omega) (by omega);refine ⟨r,b,e,r1,r2,by omega,r4,r5,.inr ?_⟩;rcases r6 with h|h
    ·exact ⟨_,by rw [h];exact List.getElem?_eq_getElem d,c⟩
    ·exact h
  ·rw [Aq (dF (by omega))];unfold B5;have:i=j:=by omega
   subst this
   by_cases hi:i<l.length
   ·rw [Bx (dT (by omega)),Ej i l[i] rfl (List.getElem?_eq_getElem hi)];obtain ⟨h1,f⟩:=k _ (List.getElem_mem hi);rw [Y6 g _ _ h1 f,sbd];refine ⟨i,_,rfl,hj,Nat.le_refl _,Nat.le_refl _,?_,.inl rfl,.inl rfl⟩;rw [List.getElem?_eq_getElem hi];simp
   ·rw [Aq (dF (by omega))];refine ⟨i,_,rfl,hj,Nat.le_refl _,Nat.le_refl _,?_,.inl rfl,.inl rfl⟩;rw [List.getElem?_eq_none (by omega)];simp
theorem A9h (c:100<=F) (N:mosaic_Node) (m:mosaic_Message) (d:(kl N.kept m.Key).length<F/\(kl N.kept m.Key).length<1000000) (f:∀x∈kl N.kept m.Key,x.length<F/\x.length<1000000) :
  ∃(r:Nat) (b:Bool),Cz F N m=some ((r:Int),b)/\r<=(kl N.kept m.Key).length/\(b=true↔∃x,(kl N.kept m.Key)[r]? = some x/\G9 x m.Vals=0)/\(r=0\/∃x,(kl N.kept m.Key)[r-1]? = some x/\G9 x m.Vals<0)/\(r=(kl N.kept m.Key).length\/∃x,(kl N.kept m.Key)[r]? = some x/\¬G9 x m.Vals<0):=by
 obtain ⟨r,b,e,r1,_,_,r4,r5,r6⟩:=A4p c (kl N.kept m.Key) m.Vals d.2 f F 0 (kl N.kept m.Key).length (by omega) (Nat.le_refl _) (by omega);refine ⟨r,b,?_,r1,r4,r5,r6⟩;unfold Cz Be;have e':Aj F ((lkM N.kept m.Key).getD []) m.Vals F (((lkM N.kept m.Key).getD []).length:Int) 0=some ((r:Int),b):=e;rw [e'];rfl
def radM (s:mosaic_Spec):List (ByteArray×mosaic_Radar):=s.Radars.foldl (λB r=>upM B r.Site.Name r) []
def pix (s:mosaic_Spec):Nat:=(s.Grid.Wide*s.Grid.High).toNat
structure GS (F:Nat) (s:mosaic_Spec):Prop where
 g:VG s.Grid
 e:VE s.Earth
 age:1<=s.Age/\s.Age<=86400
 small:pix s<=500
 r:∀n x,lkM (radM s) n=some x->VS x.Site/\beam_CheckSite F x.Site=some 0/\(-3600<=x.Offset.Lo/\x.Offset.Lo<=x.Offset.Hi/\x.Offset.Hi<=3600)/\n≠ByteArray.empty/\x.Site.Name=n
def okK (s:mosaic_Spec) (k:mosaic_Key):Prop:=(∃r,lkM (radM s) k.Name=some r)/\(0<=k.Tilt/\k.Tilt<=256)/\(0<=k.Time/\k.Time<=4294967296)
structure okM (s:mosaic_Spec) (m:mosaic_Message):Prop where
 key:okK s m.Key
 len:m.Vals.length=pix s
 vals:∀v∈m.Vals,0<=v.Lo/\v.Lo<=v.Hi/\v.Hi<=1000000
def Ss (F:Nat) (s:mosaic_Spec) (w:mosaic_where):List api_Span :=
 (((My F ((lkM (radM s) w.name).getD default).Site w.tilt s.Grid).getD ([],0)).1).map λv=>if 0<=v then A7t ((lkM (radM s) w.name).getD default).Site w.tilt s.Earth (v.tmod ((lkM (radM s) w.name).getD default).Site.Gates) else ⟨1,0⟩
def LV (F:Nat) (s:mosaic_Spec) (L:List (mosaic_where×List api_Span)):Prop:=∀w l,lkM L w=some l->l=Ss F s w
structure NI (F:Nat) (s:mosaic_Spec) (N:mosaic_Node):Prop where
 spec:N.spec=s
 radars:N.radars=radM s
 nd:(N.kept.map (·.1)).Nodup
 ok:∀p∈N.kept,okK s p.1/\p.2≠[]/\∀v∈p.2,v.length=pix s
 count:N.count=(tot N.kept:Int)
 looks:LV F s N.looks
def T0 (l:List (List api_Span)) (r:Nat) (v:List api_Span):List (List api_Span):=l.take r++[v]++l.drop r
def Sn (N:mosaic_Node) (m:mosaic_Message) (r:Nat):mosaic_Node:=⟨N.spec,N.radars,N.horizon,upM N.kept m.Key (T0 (kl N.kept m.Key) r m.Vals),N.count+1,N.looks⟩
theorem Zv {l:List (List api_Span)} {v:List api_Span} (h:r<=l.length):(T0 l r v).length=l.length+1:=by unfold T0;simp;omega
theorem Wj {l:List (List api_Span)} {v x:List api_Span}:x∈T0 l r v↔x=v\/x∈l:=by
 unfold T0;rw [List.mem_append,List.mem_append,List.mem_singleton];constructor
 ·rintro ((h|h)|h)
  ·exact .inr (List.mem_of_mem_take h)
  ·exact .inl h
  ·exact .inr (List.mem_of_mem_drop h)
 ·rintro (h|h)
  ·exact .inl (.inr h)
  ·rw [←List.take_append_drop r l] at h;rcases List.mem_append.1 h with h|h
   ·exact .inl (.inl h)
   ·exact .inr h
theorem NI.kl_ok (h:NI F s N) (k:mosaic_Key):∀v∈kl N.kept k,v.length=pix s:=by
 intro v b;unfold kl at b
 cases e:lkM N.kept k with
 | none=>rw [e] at b;cases b
 | some l=>rw [e] at b;exact (h.ok _ (A8v e)).2.2 v b
theorem NI.put (h:NI F s N) (d:okM s m) (f:r<=(kl N.kept m.Key).length):NI F s (Sn N m r):=by
 refine ⟨h.spec,h.radars,B02 h.nd,?_,?_,h.looks⟩
 ·intro p b;rcases B4t b with rfl|b
  ·refine ⟨d.key,λe=>?_,λv c=>?_⟩
   ·have:=Zv (v:=m.Vals) f;have e':T0 (kl N.kept m.Key) r m.Vals=[]:=e;rw [e'] at this;simp at this
   ·rcases Wj.1 c with rfl|c
    ·exact d.len
    ·exact h.kl_ok _ v c
  ·exact h.ok p b
 ·have h1:=B4r N.kept m.Key (T0 (kl N.kept m.Key) r m.Vals);rw [Zv f] at h1;show N.count+1=_;rw [h.count];show _=((tot (upM N.kept m.Key (T0 (kl N.kept m.Key) r m.Vals)):Nat):Int);omega
theorem Tt {n:Int} (h:a<=n/\n<=b):D5 n a b=true:=by unfold D5;rw [dT h.1,dT h.2];rfl
theorem Yl {v:api_Span} (h:a<=v.Lo/\v.Lo<=v.Hi/\v.Hi<=b):Dx v a b=true:=by unfold Dx;rw [dT h.1,dT h.2.1,dT h.2.2];rfl
theorem A7d (e:m.Vals.length<1000000) (d:∀v∈m.Vals,0<=v.Lo/\v.Lo<=v.Hi/\v.Hi<=1000000):∀(n i:Nat),i<=m.Vals.length->m.Vals.length-i<n->Dv m n (i:Int)=some 0:=by
 intro n
 induction n with
 | zero=>intro i _ h;omega
 | succ n ih =>
  intro i hi f;rw [Dv];unfold Gl
  by_cases b:i<m.Vals.length
  ·rw [Bx (dT (by omega)),Ej i m.Vals[i] rfl (List.getElem?_eq_getElem b),Yl (d _ (List.getElem_mem b)),Aq (c:=!true) rfl,ckb (by omega)];exact ih (i+1) (by omega) (by omega)
  ·rw [Aq (dF (by omega))];rfl
theorem B46 (h:GS F s):s.Grid.Wide*s.Grid.High=(pix s:Int)/\1<=pix s:=by
 have h1:=h.g.wide;have b:=h.g.high;have c:=Qv (x:=s.Grid.Wide) (y:=s.Grid.High) (A:=64) (B:=64) (by omega) (by omega);have d:1*1<=s.Grid.Wide*s.Grid.High:=Int.mul_le_mul h1.1 b.1 (by omega) (by omega);unfold pix;omega
theorem A3l (f:1000<=F) (hs:GS F s) (d:NI F s N) (b:okM s m):Gc F N m=some 0:=by
 obtain ⟨r,e⟩:=b.key.1;have h1:=B46 hs;have g:=hs.small;unfold Gc;rw [d.radars,e,Aq (c:=!(some r).isSome) rfl,Tt b.key.2.1,Tt b.key.2.2,Aq (c:=bif !true then true else !true) rfl,d.spec,ckb (by omega),Aq (by rw [b.len,h1.1];simp)];exact A7d (by rw [b.len];omega) b.vals F 0 (by omega) (by rw [b.len];omega)
theorem A4g {b:Bool} (f:1000<=F) (hs:GS F s) (c:NI F s N) (d:okM s m) (g:N.count<1000000) (e:Cz F N m=some ((r:Int),b)) (i:r<=(kl N.kept m.Key).length):G3 F N m=some (Sn N m r):=by
 have j:=hs.small;have k:=A8t N.kept m.Key;have l:=c.count;unfold G3;rw [e,sbd];unfold Bn Cn;rw [show (lkM N.kept m.Key).getD []=kl N.kept m.Key from rfl,Me (by simp;omega) (by decide),List.nil_append,sbd,Me (by rw [d.len];simp;omega) (by decide),List.nil_append,sbd];unfold Mk;rw [if_pos ⟨by omega,by omega,rfl,by omega⟩,sbd,ckb (by omega)];rfl
def ksN (N:mosaic_Node):List mosaic_Key:=Gd (N.kept.map (·.1))
def Nv (N:mosaic_Node):List mosaic_Message:=(ksN N).flatMap λk=>(kl N.kept k).map (mosaic_Message.mk k)
theorem Mh (N:mosaic_Node):(ksN N).length=N.kept.length/\(ksN N).Perm (N.kept.map (·.1))/\(ksN N).Pairwise (λx y=>¬KLt y x):=by
 obtain ⟨h1,c,d⟩:=Ny Jf Ym (N.kept.map (·.1));refine ⟨by unfold ksN Gd;rw [h1];simp,c,d.imp ?_⟩;intro x y h b;rw [(Vl y x).2 b] at h;cases h
theorem A19:k∈ksN N↔∃l,lkM N.kept k=some l:=by
 rw [(Mh N).2.1.mem_iff,A1a]
theorem NI.small (h:NI F s N):(ksN N).length<=tot N.kept:=by
 rw [(Mh N).1];exact A46 λp b=>(h.ok p b).2.1
theorem NI.key (h:NI F s N) (c:k∈ksN N):okK s k/\kl N.kept k≠[]:=by
 obtain ⟨l,b⟩:=A19.1 c;have:=h.ok _ (A8v b);refine ⟨this.1,?_⟩;unfold kl;rw [b];exact this.2.1
theorem A8u (h:NI F s N):(ksN N).Nodup:=(Mh N).2.1.nodup_iff.2 h.nd
theorem A0k (h:N.kept.length<=1000000):Km F N=some (ksN N):=by unfold Km;rw [if_pos h];rfl
theorem A7o {k2:Int->List mosaic_Message->Option (List mosaic_Message)} (c:∀v∈kl N.kept k,v.length<=10000) (d:0<=x/\x<=1000000) (e:(kl N.kept k).length<=1000) :
  ∀(n i:Nat) (acc:List mosaic_Message),i<=(kl N.kept k).length->(kl N.kept k).length-i<n->acc.length+((kl N.kept k).length-i)<=10000000->Eh F N x k2 k n (i:Int) acc=k2 (x+1) (acc++((kl N.kept k).drop i).map (mosaic_Message.mk k)):=by
 intro n
 induction n with
 | zero=>intro i acc _ h;omega
 | succ n ih =>
  intro i acc hi f g;rw [Eh];unfold Hq;rw [show (lkM N.kept k).getD []=kl N.kept k from rfl]
  by_cases b:i<(kl N.kept k).length
  ·have j:=c _ (List.getElem_mem b);rw [Bx (dT (by omega)),Ej i (kl N.kept k)[i] rfl (List.getElem?_eq_getElem b)];unfold Bn;rw [Me (by simp;omega) (by decide),List.nil_append,sbd,Me (by simp;omega) (by decide),ckb (by omega)];have:=ih (i+1) (acc++[mosaic_Message.mk k (kl N.kept k)[i]]) (by omega) (by omega) (by simp;omega);rw [List.append_assoc,List.singleton_append,←List.map_cons,←List.drop_eq_getElem_cons b] at this;exact this
  ·rw [Aq (dF (by omega)),List.drop_eq_nil_of_le (by omega)];unfold Hs;rw [ckb (by omega),List.map_nil,List.append_nil]
theorem A7p (j:1000<=F) (l:L.length<=1000) (e:∀k,∀v∈kl N.kept k,v.length<=10000) (g:∀k,(kl N.kept k).length<1000) :
  ∀(n i:Nat) (acc:List mosaic_Message),i<=L.length->L.length-i<n->acc.length+1000*(L.length-i)<=10000000->Dq F N L n (i:Int) acc=some (acc++(L.drop i).flatMap λk=>(kl N.kept k).map (mosaic_Message.mk k)):=by
 intro n
 induction n with
 | zero=>intro i acc _ h;omega
 | succ n ih =>
  intro i acc hi m o;rw [Dq];unfold Hp
  by_cases b:i<L.length
  ·have h1:=g L[i];rw [Bx (dT (by omega)),Ej i L[i] rfl (List.getElem?_eq_getElem b)];have c:=A7o (F:=F) (N:=N) (x:=i) (k2:=Dq F N L n) (k:=L[i]) (e _) (by omega) (by omega) F 0 acc (by omega) (by omega) (by omega);rw [List.drop_zero] at c;have d:=ih (i+1) (acc++(kl N.kept L[i]).map (mosaic_Message.mk L[i])) (by omega) (by omega) (by simp;omega);rw [List.append_assoc,←List.flatMap_cons (f:=λk=>(kl N.kept k).map (mosaic_Message.mk k)),←List.drop_eq_getElem_cons b] at d;exact c.trans d
  ·rw [Aq (dF (by omega)),List.drop_eq_nil_of_le (by omega)];unfold Hr;rw [List.flatMap_nil,List.append_nil]
theorem A7q (b:1000<=F) (hs:GS F s) (h:NI F s N) (d:tot N.kept<900):Ev F N=some (Nv N):=by
 have h1:=h.small;have e:=(Mh N).1;have f:=hs.small;unfold Ev;rw [A0k (by omega),sbd];have:=A7p (F:=F) (N:=N) (L:=ksN N) b (by omega) (λk v c=>by rw [h.kl_ok k v c];omega) (λk=>by have:=A8t N.kept k;omega) F 0 [] (by omega) (by omega) (by simp;omega);rw [List.drop_zero,List.nil_append] at this;exact this
theorem A93:m∈Nv N↔m.Vals∈kl N.kept m.Key:=by
 unfold Nv;rw [List.mem_flatMap];constructor
 ·rintro ⟨k,_,c⟩;obtain ⟨v,b,rfl⟩:=List.mem_map.1 c;exact b
 ·intro b;refine ⟨m.Key,?_,List.mem_map.2 ⟨m.Vals,b,rfl⟩⟩;rw [A19];unfold kl at b
  cases e:lkM N.kept m.Key with
  | none=>rw [e] at b;cases b
  | some l=>exact ⟨l,rfl⟩
theorem Yj {x d:α}:(some x).getD d=x:=rfl
def Wy (s:mosaic_Spec) (t:Int) (r:mosaic_Radar) (v:Int):api_Span:=if 0<=v then A7t r.Site t s.Earth (v.tmod r.Site.Gates) else ⟨1,0⟩
theorem A8w {r:mosaic_Radar} {V:List Int} (hs:GS F s) (f:N.spec=s) (j:N.radars=radM s) (l:okK s k) (c:lkM (radM s) k.Name=some r) (o:V.length<=1000) :
  ∀(n i:Nat) (acc:List api_Span),i<=V.length->V.length-i<n->acc.length<=i->Di F N k (V,0) n acc (i:Int)=some (acc++(V.drop i).map (Wy s k.Tilt r),upM N.looks ⟨k.Name,k.Tilt⟩ (acc++(V.drop i).map (Wy s k.Tilt r))):=by
 obtain ⟨v1,v2,_,_,_⟩:=hs.r _ _ c;have p:=v1.gates;intro n
 induction n with
 | zero=>intro i acc _ h;omega
 | succ n ih =>
  intro i acc hi q t;rw [Di];unfold H9;rw [show (V,(0:Int)).1=V from rfl]
  by_cases g:i<V.length
  ·have fin:∀b:api_Span,b=Wy s k.Tilt r V[i]->E6 acc i (Di F N k (V,0) n) b.Lo b.Hi=some (acc++(V.drop i).map (Wy s k.Tilt r),upM N.looks ⟨k.Name,k.Tilt⟩ (acc++(V.drop i).map (Wy s k.Tilt r))):=by
    intro b hb;unfold E6;rw [Me (by simp;omega) (by decide),ckb (by omega)];have:=ih (i+1) (acc++[b]) (by omega) (by omega) (by simp;omega);rw [List.append_assoc,List.singleton_append,hb,←List.map_cons,←List.drop_eq_getElem_cons g] at this;rw [hb];exact this
   rw [Bx (dT (by omega)),Ej i V[i] rfl (List.getElem?_eq_getElem g),j,c,Yj]
   by_cases d:V[i]>=0
   ·have e1:J9 V[i] r.Site.Gates=some (V[i].tmod r.Site.Gates):=by unfold J9;rw [if_neg (by omega)]
    have m:=Int.tmod_nonneg r.Site.Gates d;have h1:=Int.tmod_lt_of_pos V[i] (show 0<r.Site.Gates by omega);rw [Bx (dT d),e1,sbd,f,show (api_Site.mk r.Site.Name r.Site.X r.Site.Y r.Site.Z r.Site.Rose r.Site.Gates r.Site.Step r.Site.Width)=r.Site from rfl,B0d v2 v1 hs.e l.2.1 ⟨m,h1⟩,sbd];exact fin _ (by unfold Wy;rw [if_pos d])
   ·rw [Aq (dF d)];exact fin ⟨1,0⟩ (by unfold Wy;rw [if_neg (by omega)])
  ·rw [Aq (dF (by omega)),List.drop_eq_nil_of_le (by omega)];unfold Ha;rw [List.map_nil,List.append_nil]
theorem Zl {r:mosaic_Radar} (c:200<=F) (hs:GS F s) (d:okK s k) (b:lkM (radM s) k.Name=some r) :
  ∃V,My F r.Site k.Tilt s.Grid=some (V,0)/\V.length=pix s/\Ss F s ⟨k.Name,k.Tilt⟩=V.map (Wy s k.Tilt r):=by
 obtain ⟨v1,v2,_,_,_⟩:=hs.r _ _ b;obtain ⟨V,e,f⟩:=B0h (F:=F) c v2 v1 hs.g d.2.1;refine ⟨V,e,f,?_⟩;unfold Ss;dsimp only;rw [b,Yj,e,Yj];rfl
theorem A3q (c:200<=F) (hs:GS F s) (b:okK s k):(Ss F s ⟨k.Name,k.Tilt⟩).length=pix s:=by
 obtain ⟨r,d⟩:=b.1;obtain ⟨V,_,f,e⟩:=Zl c hs b d;rw [e,List.length_map,f]
theorem B13 (n:1000<=F) (hs:GS F s) (d:N.spec=s) (j:N.radars=radM s) (g:LV F s N.looks) (i:okK s k) :
  ∃L,H8 F N k=some (Ss F s ⟨k.Name,k.Tilt⟩,L)/\LV F s L:=by
 obtain ⟨r,b⟩:=i.1;obtain ⟨V,e,o,eb⟩:=Zl (F:=F) (by omega) hs i b;have p:=hs.small;unfold H8
 cases m:lkM N.looks (mosaic_where.mk k.Name k.Tilt) with
 | some l =>
  rw [Bx (c:=(some l).isSome) rfl,Yj,g _ _ m];exact ⟨_,rfl,g⟩
 | none =>
  rw [Aq (c:=(none:Option (List api_Span)).isSome) rfl,j,b,Yj,d,show (api_Site.mk r.Site.Name r.Site.X r.Site.Y r.Site.Z r.Site.Rose r.Site.Gates r.Site.Step r.Site.Width)=r.Site from rfl,e,sbd];have:=A8w (F:=F) hs d j i b (V:=V) (by omega) F 0 [] (by omega) (by omega) (by simp);rw [List.drop_zero,List.nil_append,←eb] at this;refine ⟨_,this,?_⟩;intro w l f;rw [X6] at f
  by_cases h:w=mosaic_where.mk k.Name k.Tilt
  ·rw [if_pos h] at f;cases f;rw [h]
  ·rw [if_neg h] at f;exact g _ _ f
def B1d (s:mosaic_Spec) (k:mosaic_Key):api_Span:=((lkM (radM s) k.Name).getD default).Offset
def Pu (s:mosaic_Spec) (N:mosaic_Node) (t:Int) (k:mosaic_Key):Bool:=decide ((kl N.kept k).length=1/\k.Time+(B1d s k).Hi<=t/\t-k.Time-(B1d s k).Lo<=s.Age)
def whK (k:mosaic_Key):mosaic_where:=⟨k.Name,k.Tilt⟩
def Xh (s:mosaic_Spec) (N:mosaic_Node) (t:Int) (B:List (mosaic_where×mosaic_Key)) (L:List mosaic_Key):List (mosaic_where×mosaic_Key):=L.foldl (λB k=>if Pu s N t k then upM B (whK k) k else B) B
def Zw (B:List (mosaic_where×mosaic_Key)) (k:mosaic_Key):Bool:=decide (lkM B (whK k)=some k)
def Jo (F:Nat) (s:mosaic_Spec) (N:mosaic_Node) (k:mosaic_Key):mosaic_used:=⟨k,((kl N.kept k)[0]?).getD [],Ss F s (whK k)⟩
theorem baE (a b:ByteArray):(a==b)=true↔a=b:=by
 obtain ⟨a⟩:=a;obtain ⟨b⟩:=b;constructor
 ·intro h;have:(a==b)=true:=h;rw [beq_iff_eq] at this;rw [this]
 ·intro h
  cases h
  exact (beq_self_eq_true a:_)
theorem B5o (x k:mosaic_Key):((x.Name==k.Name)&&(((x.Tilt:Int)==k.Tilt)&&(((x.Time:Int)==k.Time)&&true)))=decide (x=k):=by
 obtain ⟨n,t,u⟩:=x;obtain ⟨n',t',u'⟩:=k;dsimp only
 by_cases h:n=n'/\t=t'/\u=u'
 ·obtain ⟨rfl,rfl,rfl⟩:=h;rw [(baE n n).2 rfl];simp
 ·rw [dF (by simpa using h)]
  cases h1:(n==n') with
  | false=>rfl
  | true =>
   cases b:(t==t') with
   | false=>rfl
   | true =>
    cases c:(u==u') with
    | false=>rfl
    | true=>exact absurd ⟨(baE _ _).1 h1,by simpa using b,by simpa using c⟩ h
theorem B05 {B:List (mosaic_where×mosaic_Key)} (m:1000<=F) (hs:GS F s) (h:NI F s N) (o:∀k∈L,okK s k/\kl N.kept k≠[]) (u:L.length<=10000) :
  ∀(n i:Nat) (lk:List (mosaic_where×List api_Span)) (acc:List mosaic_used),i<=L.length->L.length-i<n->acc.length<=i->LV F s lk ->
   ∃lk',E0 F N B L n lk (i:Int) acc=some (acc++((L.drop i).filter (Zw B)).map (Jo F s N),lk')/\LV F s lk':=by
 intro n
 induction n with
 | zero=>intro i lk acc _ h;omega
 | succ n ih =>
  intro i lk acc hi y z b;rw [E0];unfold Jh
  by_cases d:i<L.length
  ·obtain ⟨g,f⟩:=o _ (List.getElem_mem d);rw [Bx (dT (by omega)),Ej i L[i] rfl (List.getElem?_eq_getElem d),List.drop_eq_getElem_cons d,B5o];have p:decide ((lkM B (mosaic_where.mk L[i].Name L[i].Tilt)).getD (mosaic_Key.mk ByteArray.empty 0 0)=L[i])=Zw B L[i]:=by
    unfold Zw whK
    cases e:lkM B (mosaic_where.mk L[i].Name L[i].Tilt) with
    | some x=>rw [Yj];congr 1;simp
    | none =>
     rw [dF,dF]
     ·simp
     ·intro e0;obtain ⟨r,q⟩:=g.1;have:(ByteArray.empty)=L[i].Name:=congrArg (·.Name) e0;exact (hs.r _ _ q).2.2.2.1 this.symm
   rw [p]
   cases hb:Zw B L[i] with
   | true =>
    obtain ⟨lk',e,c⟩:=B13 (N:=mosaic_Node.mk N.spec N.radars N.horizon N.kept N.count lk) m hs h.spec h.radars b g;obtain ⟨v,vs,j⟩:=List.exists_cons_of_ne_nil f;rw [cond_true,show (lkM N.kept L[i]).getD []=kl N.kept L[i] from rfl,Ej (l:=kl N.kept L[i]) (i:=0) 0 v rfl (by rw [j];rfl),e,sbd,Me (by simp;omega) (by decide)];unfold Ex;rw [ckb (by omega),List.filter_cons_of_pos (by exact hb)];obtain ⟨lk2,e2,t⟩:=ih (i+1) lk' (acc++[Jo F s N L[i]]) (by omega) (by omega) (by simp;omega) c;refine ⟨lk2,?_,t⟩;rw [List.append_assoc,List.singleton_append] at e2;have eu:mosaic_used.mk L[i] v (Ss F s ⟨L[i].Name,L[i].Tilt⟩)=Jo F s N L[i]:=by unfold Jo whK;rw [j];rfl
    show E0 F N B L n lk' _ (acc++[mosaic_used.mk L[i] v (Ss F s ⟨L[i].Name,L[i].Tilt⟩)])=_;rw [eu];exact e2
   | false =>
    rw [cond_false];unfold Ex;rw [ckb (by omega),List.filter_cons_of_neg (by rw [hb];decide)];exact ih (i+1) lk acc (by omega) (by omega) (by omega) b
  ·rw [Aq (dF (by omega)),List.drop_eq_nil_of_le (by omega)];exact ⟨lk,by simp [Jj],b⟩
theorem B1a (hs:GS F s) (h:NI F s N) (q:0<=t/\t<=1000000000000) (m:∀k∈L,okK s k) (u:L.length<=10000) :
  ∀(n i:Nat) (B:List (mosaic_where×mosaic_Key)),i<=L.length->L.length-i<n->E2 F N t L n B (i:Int)=Ew F N (Xh s N t B (L.drop i)):=by
 intro n
 induction n with
 | zero=>intro i B _ h;omega
 | succ n ih =>
  intro i B hi v;rw [E2];unfold Ji
  by_cases f:i<L.length
  ·have l:=m _ (List.getElem_mem f);obtain ⟨r,j⟩:=l.1;obtain ⟨_,_,ho,_,_⟩:=hs.r _ _ j;have o:=l.2.2;have p:=hs.age;have eo:B1d s L[i]=r.Offset:=by unfold B1d;rw [j];rfl
   rw [Bx (dT (by omega)),Ej i L[i] rfl (List.getElem?_eq_getElem f),List.drop_eq_getElem_cons f,h.radars,j,Yj,show (lkM N.kept L[i]).getD []=kl N.kept L[i] from rfl,h.spec];have fin:∀C,Ey (i:Int) (E2 F N t L n) C=Ew F N (Xh s N t C (L.drop (i+1))):=by
    intro C;unfold Ey;rw [ckb (by omega)];exact ih (i+1) C (by omega) (by omega)
   have step:Xh s N t B (L[i]::L.drop (i+1))=Xh s N t (if Pu s N t L[i] then upM B (whK L[i]) L[i] else B) (L.drop (i+1)):=rfl;rw [step]
   by_cases h1:(kl N.kept L[i]).length=1
   ·rw [h1,show (((1:Nat):Int)==1)=true from rfl,gdT (g:=(true==true&&true)) rfl,ckb (by omega)]
    by_cases d:L[i].Time+r.Offset.Hi<=t
    ·rw [dT d,gdT (g:=((bif true then true else false)==true&&true)) rfl,ckb (by omega),gdT (g:=((bif true then true else false)==true&&true)) rfl,ckb (by omega)]
     by_cases e:t-L[i].Time-r.Offset.Lo<=s.Age
     ·rw [dT e,Bx (c:=bif (bif true then true else false) then true else false) rfl,fin];have b:Pu s N t L[i]=true:=by unfold Pu;rw [eo];exact dT ⟨h1,d,e⟩
      rw [b,if_pos rfl];rfl
     ·rw [dF e,Aq (c:=bif (bif true then true else false) then false else false) rfl,fin];have b:Pu s N t L[i]=false:=by unfold Pu;rw [eo];exact dF λx=>e x.2.2
      rw [b];rfl
    ·rw [dF d,gdF (g:=((bif true then false else false)==true&&true)) rfl,sbd,gdF (g:=((bif true then false else false)==true&&true)) rfl,sbd,Aq (c:=bif (bif true then false else false) then _ else false) rfl,fin];have b:Pu s N t L[i]=false:=by unfold Pu;rw [eo];exact dF λx=>d x.2.1
     rw [b];rfl
   ·have e1:((((kl N.kept L[i]).length:Nat):Int)==1)=false:=by
     have:¬(((kl N.kept L[i]).length:Nat):Int)=1:=by omega
     simpa using this
    rw [e1,gdF (g:=(false==true&&true)) rfl,sbd,gdF (g:=((bif false then _ else false)==true&&true)) rfl,sbd,gdF (g:=((bif false then _ else false)==true&&true)) rfl,sbd,Aq (c:=bif (bif false then _ else false) then _ else false) rfl,fin];have b:Pu s N t L[i]=false:=by unfold Pu;exact dF λx=>h1 x.1
    rw [b];rfl
  ·rw [Aq (dF (by omega)),List.drop_eq_nil_of_le (by omega)];rfl
def Tc (s:mosaic_Spec) (N:mosaic_Node) (t:Int):List mosaic_Key:=(ksN N).filter (Zw (Xh s N t [] (ksN N)))
theorem B55 (c:1000<=F) (hs:GS F s) (h:NI F s N) (g:tot N.kept<900) (d:0<=t/\t<=1000000000000) :
  ∃L,Jt F N t=some ((Tc s N t).map (Jo F s N),L)/\LV F s L:=by
 have h1:=h.small;have i:=(Mh N).1;unfold Jt;rw [A0k (by omega),sbd];have e:=B1a (F:=F) (N:=N) (t:=t) (L:=ksN N) hs h d (λk b=>(h.key b).1) (by omega) F 0 [] (by omega) (by omega);rw [List.drop_zero] at e;obtain ⟨L,e2,f⟩:=B05 (B:=Xh s N t [] (ksN N)) c hs h (L:=ksN N) (λk b=>h.key b) (by omega) F 0 N.looks [] (by omega) (by omega) (by simp) h.looks;rw [List.drop_zero,List.nil_append] at e2;refine ⟨L,?_,f⟩;refine e.trans ?_;unfold Ew;rw [A0k (by omega),sbd];exact e2
theorem B18 {F:Nat} :∀(L:List mosaic_Key) (B:List (mosaic_where×mosaic_Key)) (w:mosaic_where),L.Pairwise (λx y=>¬KLt y x) ->
  (∀k,lkM B w=some k->whK k=w/\∀k'∈L,¬KLt k' k) ->
  (∀k,lkM (Xh s N t B L) w=some k->whK k=w/\(lkM B w=some k\/(k∈L/\Pu s N t k=true))/\∀k'∈L,Pu s N t k'=true->whK k'=w->¬KLt k k') /\
  (lkM (Xh s N t B L) w=none->lkM B w=none/\∀k'∈L,Pu s N t k'=true->whK k'≠w):=by
 intro L
 induction L with
 | nil=>intro B w _ l;exact ⟨λk c=>⟨(l k c).1,.inl c,λ_ h=>by cases h⟩,λc=>⟨c,λ_ h=>by cases h⟩⟩
 | cons x L ih =>
  intro B w m l;obtain ⟨n,m⟩:=List.pairwise_cons.1 m;have e:Xh s N t B (x::L)=Xh s N t (if Pu s N t x then upM B (whK x) x else B) L:=rfl;rw [e]
  by_cases i:Pu s N t x=true/\whK x=w
  ·obtain ⟨i,o⟩:=i;have d:lkM (upM B (whK x) x) w=some x:=by rw [←o,A5r]
   rw [i,if_pos rfl];obtain ⟨i1,i2⟩:=ih (upM B (whK x) x) w m (λk c=>by rw [d] at c;cases c;exact ⟨o,n⟩)
   constructor
   ·intro k c;obtain ⟨a1,a2,a3⟩:=i1 k c;refine ⟨a1,?_,?_⟩
    ·rcases a2 with a2|a2
     ·rw [d] at a2;cases a2;exact .inr ⟨.head _,i⟩
     ·exact .inr ⟨.tail _ a2.1,a2.2⟩
    ·intro k' b f g;rcases List.mem_cons.1 b with rfl|b
     ·rcases a2 with a2|a2
      ·rw [d] at a2;cases a2;exact A17 _
      ·exact n _ a2.1
     ·exact a3 k' b f g
   ·intro c;have:=(i2 c).1;rw [d] at this;cases this
  ·have d:lkM (if Pu s N t x then upM B (whK x) x else B) w=lkM B w:=by
    by_cases j:Pu s N t x=true
    ·rw [j,if_pos rfl,X6,if_neg (λe=>i ⟨j,e.symm⟩)]
    ·rw [if_neg j]
   obtain ⟨i1,i2⟩:=ih (if Pu s N t x then upM B (whK x) x else B) w m (λk c=>by rw [d] at c;exact ⟨(l k c).1,λk' b=>(l k c).2 k' (.tail _ b)⟩);constructor
   ·intro k c;obtain ⟨a1,a2,a3⟩:=i1 k c;refine ⟨a1,?_,?_⟩
    ·rcases a2 with a2|a2
     ·rw [d] at a2;exact .inl a2
     ·exact .inr ⟨.tail _ a2.1,a2.2⟩
    ·intro k' b f g;rcases List.mem_cons.1 b with rfl|b
     ·exact absurd ⟨f,g⟩ i
     ·exact a3 k' b f g
   ·intro c;obtain ⟨b1,b2⟩:=i2 c;rw [d] at b1;refine ⟨b1,λk' b f g=>?_⟩;rcases List.mem_cons.1 b with rfl|b
    ·exact i ⟨f,g⟩
    ·exact b2 k' b f g
theorem A2q {x y:mosaic_Key} (b:whK x=whK y):KLt x y↔x.Time<y.Time:=by
 obtain ⟨n,t,u⟩:=x;obtain ⟨n',t',u'⟩:=y;simp only [whK,mosaic_where.mk.injEq] at b;obtain ⟨rfl,rfl⟩:=b;unfold KLt;constructor
 ·rintro (h|⟨_,h|⟨_,h⟩⟩)
  ·exact h
  ·exact absurd h (Ut _)
  ·exact absurd h (Int.lt_irrefl _)
 ·exact .inl
theorem B24:k∈Tc s N t↔k∈ksN N/\Pu s N t k=true/\∀k'∈ksN N,Pu s N t k'=true->whK k'=whK k->k'.Time<=k.Time:=by
 have c:=B18 (F:=0) (s:=s) (N:=N) (t:=t) (ksN N) [] (whK k) (Mh N).2.2 (λk g=>by cases g)
 unfold Tc;rw [List.mem_filter];unfold Zw;rw [decide_eq_true_iff];constructor
 ·rintro ⟨h1,b⟩;obtain ⟨_,a2,a3⟩:=c.1 k b;refine ⟨h1,?_,λk' d i f=>?_⟩
  ·rcases a2 with a2|a2
   ·cases a2
   ·exact a2.2
  ·have:=a3 k' d i f;rw [A2q f.symm] at this;omega
 ·rintro ⟨h1,b,j⟩;refine ⟨h1,?_⟩
  cases e:lkM (Xh s N t [] (ksN N)) (whK k) with
  | none=>exact absurd rfl ((c.2 e).2 k h1 b)
  | some x =>
   obtain ⟨a1,a2,a3⟩:=c.1 x e;rcases a2 with a2|a2
   ·cases a2
   ·have b1:=j x a2.1 a2.2 a1;have b2:=a3 k h1 b rfl;rw [A2q a1] at b2
    congr 1
    obtain ⟨n,t,u⟩:=x;obtain ⟨n',t',u'⟩:=k;simp only [whK,mosaic_where.mk.injEq] at a1;obtain ⟨rfl,rfl⟩:=a1;have:u=u':=by
     simp only at b1 b2;omega
    rw [this]
structure C3 {α:Type} (c:α->α->Int):Prop where
 tr:∀x y z,c x y<0->c y z<0->c x z<0
 e1:∀x y z,c x y=0->c x z=c y z
 e2:∀x y z,c y z=0->c x y=c x z
 rf:∀x,c x x=0
 ay:∀x y,c x y<0\/c x y=0\/c y x<0
def Wl {α:Type} (c d:α->α->Int) (x y:α):Int:=if c x y≠0 then c x y else d x y
theorem Vm {c d:α->α->Int} (f:C3 c) (hd:C3 d):C3 (Wl c d):=by
 refine ⟨λx y z=>?_,λx y z=>?_,λx y z=>?_,λx=>?_,λx y=>?_⟩
 ·unfold Wl;intro h1 g
  by_cases a:c x y=0
  ·rw [if_neg (by simpa using a)] at h1;have e:=f.e1 x y z a;rw [e]
   by_cases b:c y z=0
   ·rw [if_neg (by simpa using b)] at g ⊢;exact hd.tr x y z h1 g
   ·rw [if_pos b] at g ⊢;exact g
  ·rw [if_pos a] at h1
   by_cases b:c y z=0
   ·have e:=f.e2 x y z b;rw [←e,if_pos a];exact h1
   ·rw [if_pos b] at g;have:=f.tr x y z h1 g;rw [if_pos (by omega)];exact this
 ·unfold Wl;intro h1
  by_cases a:c x y=0
  ·rw [if_neg (by simpa using a)] at h1;rw [f.e1 x y z a,hd.e1 x y z h1]
  ·rw [if_pos a] at h1;exact absurd h1 a
 ·unfold Wl;intro h1
  by_cases a:c y z=0
  ·rw [if_neg (by simpa using a)] at h1;rw [f.e2 x y z a,hd.e2 x y z h1]
  ·rw [if_pos a] at h1;exact absurd h1 a
 ·unfold Wl;rw [if_neg (by simpa using f.rf x),hd.rf]
 ·unfold Wl;rcases f.ay x y with h|h|h
  ·left;rw [if_pos (by omega)];exact h
  ·rw [if_neg (by simpa using h)];have h':c y x=0:=by have:=f.e1 x y x h;rw [f.rf] at this;exact this.symm
   rw [if_neg (by simpa using h')];exact hd.ay x y
  ·right;right;rw [if_pos (by omega)];exact h
theorem A1z (f:α->Int):C3 (λx y=>c3 (f x) (f y)):=by
 refine ⟨λx y z=>?_,λx y z=>?_,λx y z=>?_,λx=>?_,λx y=>?_⟩<;>unfold c3<;>(repeat' split)<;>omega
theorem B30 (f:α->Int):C3 (λx y=>c3 (f y) (f x)):=by
 refine ⟨λx y z=>?_,λx y z=>?_,λx y z=>?_,λx=>?_,λx y=>?_⟩<;>unfold c3<;>(repeat' split)<;>omega
theorem Ru {a b:ByteArray}:c3s a b<0↔a.toList<b.toList:=by
 unfold c3s
 by_cases h:Wt a b=true
 ·rw [if_pos h];exact ⟨λ_=>(Rb a b).1 h,λ_=>by decide⟩
 ·rw [if_neg h];refine ⟨λc=>?_,λc=>absurd ((Rb a b).2 c) h⟩
  split at c<;>simp at c
theorem Rt {a b:ByteArray}:c3s a b=0↔a.toList=b.toList:=by
 unfold c3s
 by_cases h:Wt a b=true
 ·rw [if_pos h];refine ⟨λc=>by simp at c,λc=>?_⟩;have:=(Rb a b).1 h;rw [c] at this;exact absurd this (Ut _)
 ·rw [if_neg h]
  by_cases g:Vy a b=true
  ·rw [if_pos g];exact ⟨λc=>by simp at c,λc=>absurd c ((Vz a b).1 g).2⟩
  ·rw [if_neg g];refine ⟨λ_=>?_,λ_=>rfl⟩;refine Decidable.by_contra λd=>g ((Vz a b).2 ⟨λe=>h ((Rb a b).2 e),d⟩)
theorem A20 {a b c d:ByteArray} (h:a.toList=b.toList) (k:c.toList=d.toList):c3s a c=c3s b d:=by
 rcases A47 a.toList c.toList with e|e|e
 ·have h1:c3s a c<0:=Ru.2 e;have f:c3s b d<0:=Ru.2 (by rw [←h,←k];exact e);unfold c3s at *
  split at h1<;>(try split at h1)<;>split at f<;>(try split at f)<;>simp_all
 ·rw [Rt.2 e,Rt.2 (by rw [←h,←k];exact e)]
 ·have h1:¬c3s a c<0:=λx=>absurd (A5s e (Ru.1 x)) (Ut _);have g:c3s a c≠0:=λx=>by rw [Rt.1 x] at e;exact Ut _ e
  have f:¬c3s b d<0:=λx=>by have:=Ru.1 x;rw [←h,←k] at this;exact absurd (A5s e this) (Ut _)
  have i:c3s b d≠0:=λx=>by have:=Rt.1 x;rw [←h,←k] at this;rw [this] at e;exact Ut _ e
  unfold c3s at *
  split at h1<;>(try split at h1)<;>split at f<;>(try split at f)<;>simp_all
theorem B32 (f:α->ByteArray):C3 (λx y=>c3s (f x) (f y)):=by
 refine ⟨λx y z h1 b=>Ru.2 (A5s (Ru.1 h1) (Ru.1 b)),λx y z h=>A20 (Rt.1 h) rfl,λx y z h=>A20 rfl (Rt.1 h),λx=>Rt.2 rfl,λx y=>?_⟩;rcases A47 (f x).toList (f y).toList with e|e|e
 ·exact .inl (Ru.2 e)
 ·exact .inr (.inl (Rt.2 e))
 ·exact .inr (.inr (Ru.2 e))
abbrev BK:=api_Span×mosaic_Key
def A0r (x y:BK):Int:=orL [c3 x.1.Hi y.1.Hi,c3 x.1.Lo y.1.Lo,c3 y.2.Time x.2.Time,c3s x.2.Name y.2.Name,c3 x.2.Tilt y.2.Tilt]
theorem A54:A0r=Wl (λx y=>c3 x.1.Hi y.1.Hi) (Wl (λx y=>c3 x.1.Lo y.1.Lo) (Wl (λx y=>c3 y.2.Time x.2.Time) (Wl (λx y=>c3s x.2.Name y.2.Name) (λx y=>c3 x.2.Tilt y.2.Tilt)))):=by
 funext x y
 unfold A0r Wl;show (if _ then _ else if _ then _ else if _ then _ else if _ then _ else if c3 x.2.Tilt y.2.Tilt≠0 then c3 x.2.Tilt y.2.Tilt else 0)=_;have:(if c3 x.2.Tilt y.2.Tilt≠0 then c3 x.2.Tilt y.2.Tilt else 0)=c3 x.2.Tilt y.2.Tilt:=by split<;>omega
 rw [this]
theorem betC_ok:C3 A0r:=by
 rw [A54];exact Vm (A1z λx:BK=>x.1.Hi) (Vm (A1z λx:BK=>x.1.Lo) (Vm (B30 λx:BK=>x.2.Time) (Vm (B32 λx:BK=>x.2.Name) (A1z λx:BK=>x.2.Tilt))))
theorem A6b (a b:ByteArray):Ck a b=c3s a b:=by
 unfold Ck Cq;have:∀c:ByteArray,sEq c c=true:=λc=>by unfold sEq;simp
 rw [this,this,Aq (c:=!true) rfl,Aq (c:=!true) rfl];unfold c3s
 cases Wt a b with
 | true=>rfl
 | false=>cases Vy a b<;>rfl
def Xy (l:List mosaic_used) (p:Nat) (x:mosaic_Pixel):Prop :=
 (x=⟨⟨0,1000000⟩,⟨ByteArray.empty,0,0⟩⟩/\∀u∈l,∀b,u.bands[p]? = some b->¬b.Lo<=b.Hi) \/
 ∃u∈l,∃b v,u.bands[p]? = some b/\b.Lo<=b.Hi/\u.vals[p]? = some v/\x=⟨v,u.Key⟩/\∀u'∈l,∀b',u'.bands[p]? = some b'->b'.Lo<=b'.Hi->¬A0r (b',u'.Key) (b,u.Key)<0
def Xn (l:List mosaic_used) (p i:Nat) (q:Int):Prop :=
 (q=-1/\∀j u b,j<i->l[j]? = some u->u.bands[p]? = some b->¬b.Lo<=b.Hi) \/
 ∃(m:Nat) (u:mosaic_used) (b:api_Span),q=m/\m<i/\l[m]? = some u/\u.bands[p]? = some b/\b.Lo<=b.Hi/\∀j u' b',j<i->l[j]? = some u'->u'.bands[p]? = some b'->b'.Lo<=b'.Hi->¬A0r (b',u'.Key) (b,u.Key)<0
abbrev YU:=List mosaic_used×List (mosaic_where×List api_Span)
theorem A7u {Y:YU} {p:Nat} {acc:List mosaic_Pixel} {k2:Int->List mosaic_Pixel->Option (List mosaic_Pixel×Int×List (mosaic_where×List api_Span))} (hF:100<=F) (hY:∀u∈Y.1,u.bands.length=P/\u.vals.length=P) (hp:p<P) (hl:Y.1.length<=10000) :
  ∀(n i:Nat) (q:Int),i<=Y.1.length->Y.1.length-i<n->Xn Y.1 p i q->∃q',Db F Y p acc k2 n q (i:Int)=Dp Y p acc k2 q'/\Xn Y.1 p Y.1.length q':=by
 intro n
 induction n with
 | zero=>intro i q _ h;omega
 | succ n ih =>
  intro i q hi hn t;rw [Db];unfold Hl
  by_cases z:i<Y.1.length
  ·have hu:=hY _ (List.getElem_mem z);have f:=List.getElem?_eq_getElem z;obtain ⟨u,x⟩:∃u,u=Y.1[i]:=⟨_,rfl⟩;rw [←x] at hu f;obtain ⟨b,hb⟩:∃b,u.bands[p]? = some b:=⟨_,List.getElem?_eq_getElem (show p<u.bands.length by omega)⟩;rw [Bx (dT (by omega)),Ej i u rfl f,Ej p b rfl hb];have fin:∀q',Xn Y.1 p (i+1) q'->∃q2,Da (i:Int) (Db F Y p acc k2 n) q'=Dp Y p acc k2 q2/\Xn Y.1 p Y.1.length q2:=by
    intro q' y;unfold Da;rw [ckb (by omega)];exact ih (i+1) q' (by omega) (by omega) y
   have one:∀j u',j<i+1->Y.1[j]? = some u'->j<i\/(j=i/\u'=u):=by
    intro j u' hj d
    by_cases h:j<i
    ·exact .inl h
    ·have:j=i:=by omega
     subst this;rw [f] at d;cases d
     exact .inr ⟨rfl,rfl⟩
   unfold Nu
   by_cases hs:b.Lo<=b.Hi
   ·rw [Aq (by rw [dT hs];rfl)];rcases t with ⟨rfl,l⟩|⟨m,v,b2,rfl,hm,s,g,o,l⟩
    ·rw [Bx (dT (by omega))];refine fin _ (.inr ⟨i,u,b,rfl,by omega,f,hb,hs,?_⟩);intro j u' b' hj d c e;rcases one j u' hj d with h|⟨rfl,rfl⟩
     ·exact absurd e (l j u' b' h d c)
     ·rw [hb] at c;cases c
      rw [betC_ok.rf];omega
    ·rw [Aq (dF (by omega)),Ej m v rfl s,Ej p b rfl hb,Ej p b2 rfl g,Ej p b rfl hb,Ej p b2 rfl g,Mx,Mx,Mx,Mx,A6b,B2g _ (by simp;omega) (by simp),sbd,
      show orL [c3 b.Hi b2.Hi,c3 b.Lo b2.Lo,c3 v.Key.Time u.Key.Time,c3s u.Key.Name v.Key.Name,c3 u.Key.Tilt v.Key.Tilt]=A0r (b,u.Key) (b2,v.Key) from rfl]
     by_cases k:A0r (b,u.Key) (b2,v.Key)<0
     ·rw [Bx (dT k)];refine fin _ (.inr ⟨i,u,b,rfl,by omega,f,hb,hs,?_⟩);intro j u' b' hj d c e r;rcases one j u' hj d with h|⟨rfl,rfl⟩
      ·exact l j u' b' h d c e (betC_ok.tr _ _ _ r k)
      ·rw [hb] at c;cases c
       rw [betC_ok.rf] at r;omega
     ·rw [Aq (dF k)];refine fin _ (.inr ⟨m,v,b2,rfl,by omega,s,g,o,?_⟩);intro j u' b' hj d c e;rcases one j u' hj d with h|⟨rfl,rfl⟩
      ·exact l j u' b' h d c e
      ·rw [hb] at c;cases c
       exact k
   ·rw [Bx (by rw [dF hs];rfl)];refine fin q ?_;rcases t with ⟨rfl,l⟩|⟨m,v,b2,rfl,hm,s,g,o,l⟩
    ·refine .inl ⟨rfl,λj u' b' hj d c=>?_⟩;rcases one j u' hj d with h|⟨rfl,rfl⟩
     ·exact l j u' b' h d c
     ·rw [hb] at c;cases c;exact hs
    ·refine .inr ⟨m,v,b2,rfl,by omega,s,g,o,λj u' b' hj d c e=>?_⟩;rcases one j u' hj d with h|⟨rfl,rfl⟩
     ·exact l j u' b' h d c e
     ·rw [hb] at c;cases c;exact absurd e hs
  ·rw [Aq (dF (by omega))];have:i=Y.1.length:=by omega
   subst this;exact ⟨q,rfl,t⟩
theorem B15 {Y:YU} (z:100<=F) (r:∀u∈Y.1,u.bands.length=P/\u.vals.length=P) (hl:Y.1.length<F) (f:Y.1.length<=10000) (hP:P<=10000) :
  ∀(n p:Nat) (acc:List mosaic_Pixel),p<=P->P-p<n->acc.length=p->(∀j x,acc[j]? = some x->Xy Y.1 j x)->∃out,Ca F Y (P:Int) n (p:Int) acc=some (out,0,Y.2)/\out.length=P/\∀j x,out[j]? = some x->Xy Y.1 j x:=by
 intro n
 induction n with
 | zero=>intro p acc _ h;omega
 | succ n ih =>
  intro p acc hp hn ha s;rw [Ca];unfold Hk
  by_cases hc:p<P
  ·rw [Bx (dT (by omega))];obtain ⟨q,e,hq⟩:=A7u (F:=F) (P:=P) (Y:=Y) (p:=p) (acc:=acc) (k2:=Ca F Y (P:Int) n) z r hc f F 0 (-1) (by omega) (by omega) (.inl ⟨rfl,λj u b h=>by omega⟩);have e':Db F Y (p:Int) acc (Ca F Y (P:Int) n) F (-1) 0=Dp Y p acc (Ca F Y (P:Int) n) q:=e;rw [e'];have fin:∀x:mosaic_Pixel,Xy Y.1 p x->∃out,Eg (p:Int) acc (Ca F Y (P:Int) n) x.Value_.Lo x.Value_.Hi x.Key.Name x.Key.Tilt x.Key.Time=some (out,0,Y.2)/\out.length=P/\∀j x,out[j]? = some x->Xy Y.1 j x:=by
    intro x g;unfold Eg Ho;rw [Me (by simp;omega) (by decide),ckb (by omega)];refine ih (p+1) (acc++[x]) (by omega) (by omega) (by simp;omega) (λj y hj=>?_)
    by_cases h:j<acc.length
    ·rw [List.getElem?_append_left h] at hj;exact s j y hj
    ·rw [List.getElem?_append_right (by omega)] at hj;have:j=p:=by
      have:=(List.getElem?_eq_some_iff.1 hj).1;simp at this;omega
     subst this;rw [ha,Nat.sub_self] at hj
     cases hj;exact g
   unfold Dp;rcases hq with ⟨rfl,i⟩|⟨m,u,b,rfl,hm,d,hb,hs,i⟩
   ·rw [Bx (dT (by omega))];refine fin ⟨⟨0,1000000⟩,⟨ByteArray.empty,0,0⟩⟩ (.inl ⟨rfl,λu d b hb=>?_⟩);obtain ⟨j,hj,rfl⟩:=List.mem_iff_getElem.1 d;exact i j _ b hj (List.getElem?_eq_getElem hj) hb
   ·have c:=List.mem_of_getElem? d;obtain ⟨_,b3⟩:=r u c;obtain ⟨v,t⟩:∃v,u.vals[p]? = some v:=⟨_,List.getElem?_eq_getElem (by omega)⟩;rw [Aq (dF (by omega)),Ej m u rfl d,Ej p v rfl t];refine fin ⟨v,u.Key⟩ (.inr ⟨u,c,b,v,hb,hs,t,rfl,λu' k b' l o=>?_⟩);obtain ⟨j,hj,rfl⟩:=List.mem_iff_getElem.1 k;exact i j _ b' hj (List.getElem?_eq_getElem hj) l o
  ·rw [Aq (dF (by omega))];unfold Hm;exact ⟨acc,rfl,by omega,s⟩
theorem A7s (b:0<=t/\t<=4294967296) (d:N.horizon<=t):Gb F N t=some 0:=by
 unfold Gb Bt;rw [sbd,cond_false,Tt b,Aq (c:=!true) rfl,Aq (dF (by omega))]
theorem B06 (g:1000<=F) (hs:GS F s) (h:NI F s N):∀u∈(Tc s N t).map (Jo F s N),u.bands.length=pix s/\u.vals.length=pix s:=by
 intro u d;obtain ⟨k,e,rfl⟩:=List.mem_map.1 d;have b:=(B24.1 e).1;obtain ⟨h1,f⟩:=h.key b;refine ⟨A3q (by omega) hs h1,?_⟩;obtain ⟨v,vs,c⟩:=List.exists_cons_of_ne_nil f;show (((kl N.kept k)[0]?).getD []).length=_;rw [c];exact h.kl_ok k v (by rw [c];exact .head _)
theorem A7h (b:1000<=F) (hs:GS F s) (h:NI F s N) (d:tot N.kept<900) (f:0<=t/\t<=4294967296) (g:N.horizon<=t) :
  ∃out L,D6 F N t=some (out,0,L)/\LV F s L/\out.length=pix s/\∀p x,out[p]? = some x->Xy ((Tc s N t).map (Jo F s N)) p x:=by
 obtain ⟨L,e,i⟩:=B55 (t:=t) b hs h d (by omega);have k:=B46 hs;have l:=hs.small;have m:((Tc s N t).map (Jo F s N)).length<=tot N.kept:=by
  rw [List.length_map];exact Nat.le_trans (List.length_filter_le _ _) h.small
 obtain ⟨out,e2,h1,n⟩:=B15 (F:=F) (P:=pix s) (Y:=((Tc s N t).map (Jo F s N),L)) (by omega) (B06 b hs h) (by show ((Tc s N t).map (Jo F s N)).length<F;omega) (by show ((Tc s N t).map (Jo F s N)).length<=10000;omega) (by omega) F 0 [] (by omega) (by omega) rfl (λj x hj=>by simp at hj);refine ⟨out,L,?_,i,h1,n⟩;unfold D6;rw [A7s f g,sbd,Aq (c:=(0:Int) != 0) rfl,e,sbd,h.spec,k.1,ckb (by omega)];exact e2
theorem B6e {β:Type} {y:Int} {f:Int->Option β} (h:y≠0):(J9 x y).bind f=f (x.tmod y):=by unfold J9;rw [if_neg h];rfl
structure RG (F:Nat) (s:mosaic_Spec):Prop where
 g:VG s.Grid
 e:VE s.Earth
 age:1<=s.Age/\s.Age<=86400
 small:pix s<=500
 len:1<=s.Radars.length/\s.Radars.length<=32
 nd:(s.Radars.map (·.Site.Name)).Nodup
 ok:∀r∈s.Radars,VS r.Site/\beam_CheckSite F r.Site=some 0/\(-3600<=r.Offset.Lo/\r.Offset.Lo<=r.Offset.Hi/\r.Offset.Hi<=3600)/\r.Site.Name≠ByteArray.empty
def A5i (B:List (ByteArray×mosaic_Radar)) (l:List mosaic_Radar):List (ByteArray×mosaic_Radar):=l.foldl (λB r=>upM B r.Site.Name r) B
theorem A8i:∀(l:List mosaic_Radar) (B:List (ByteArray×mosaic_Radar)) (n:ByteArray),(l.map (·.Site.Name)).Nodup->lkM (A5i B l) n=match l.find? (λr=>r.Site.Name=n) with|some r=>some r|none=>lkM B n:=by
 intro l
 induction l with
 | nil=>intro B n _;rfl
 | cons x l ih =>
  intro B n d;rw [List.map_cons,List.nodup_cons] at d;have e:A5i B (x::l)=A5i (upM B x.Site.Name x) l:=rfl;rw [e,ih _ _ d.2,List.find?_cons]
  by_cases h:x.Site.Name=n
  ·have b:l.find? (λr=>r.Site.Name=n)=none:=by
    rw [List.find?_eq_none];intro r g c;have c:r.Site.Name=n:=by simpa using c
    exact d.1 (by rw [h,←c];exact List.mem_map_of_mem (f:=(·.Site.Name)) g)
   rw [b,X6,if_pos h.symm];simp [h]
  ·rw [X6,if_neg (λe=>h e.symm)];simp [h]
theorem A72 (h:RG F s) (n:ByteArray):lkM (radM s) n=s.Radars.find? (λr=>r.Site.Name=n):=by
 have:=A8i s.Radars [] n h.nd;unfold radM;refine this.trans ?_
 cases s.Radars.find? (λr=>r.Site.Name=n)<;>rfl
theorem RG.gs (h:RG F s):GS F s:=by
 refine ⟨h.g,h.e,h.age,h.small,λn x f=>?_⟩;rw [A72 h] at f;have h1:=List.mem_of_find?_eq_some f;have i:x.Site.Name=n:=by simpa using List.find?_some f
 obtain ⟨a,b,c,d⟩:=h.ok x h1;exact ⟨a,b,c,i▸d,i⟩
def Um (s:mosaic_Spec):mosaic_Node:=⟨s,radM s,0,[],0,[]⟩
theorem A6g:NI F s (Um s):=by
 refine ⟨rfl,rfl,.nil,?_,rfl,?_⟩
 ·intro p b;cases b
 ·intro w l h;cases h
theorem A6a (h:RG F s):∀(n i:Nat) (B:List (ByteArray×Bool)),i<=s.Radars.length->s.Radars.length-i<n->(∀m b,lkM B m=some b->m∈(s.Radars.take i).map (·.Site.Name))->Gt F s n B (i:Int)=some 0:=by
 have q:=h.len;intro n
 induction n with
 | zero=>intro i B _ h;omega
 | succ n ih =>
  intro i B hi r o;rw [Gt];unfold Ln
  by_cases g:i<s.Radars.length
  ·obtain ⟨a,b,c,d⟩:=h.ok _ (List.getElem_mem g);have f:lkM B s.Radars[i].Site.Name=none:=by
    cases e:lkM B s.Radars[i].Site.Name with
    | none=>rfl
    | some b =>
     have:=o _ _ e;rw [List.map_take] at this;obtain ⟨j,hj,k⟩:=List.mem_take_iff_getElem.1 this;have p:=List.pairwise_iff_getElem.1 h.nd j i (by simp at hj ⊢;omega) (by simpa using g) (by omega);exact absurd (by rw [k];simp) p
   rw [Bx (dT (by omega)),Ej i s.Radars[i] rfl (List.getElem?_eq_getElem g),b,sbd,Aq (c:=(0:Int) != 0) rfl,f,Aq (c:=(none:Option Bool).getD false) rfl,Yl c,Aq (c:=!true) rfl,ckb (by omega)];refine ih (i+1) _ (by omega) (by omega) (λm b l=>?_);rw [X6] at l;rw [List.take_succ_eq_append_getElem g,List.map_append,List.mem_append]
   by_cases e:m=s.Radars[i].Site.Name
   ·exact .inr (by simp [e])
   ·rw [if_neg e] at l;exact .inl (o _ _ l)
  ·rw [Aq (dF (by omega))];rfl
theorem A7f (f:100<=F) (h:RG F s):Mi F s=some 0:=by
 have i:=h.len;unfold Mi;rw [V3 h.g,sbd,Aq (c:=(0:Int) != 0) rfl,Yl h.e,Tt h.age,Aq (c:=bif !true then true else !true) rfl,Aq (by
  have:¬(s.Radars.length:Int)=0:=by omega
  simpa using this),Aq (dF (by omega))]
 exact A6a h F 0 [] (by omega) (by omega) (λm b d=>by cases d)
theorem A95 {F:Nat} {R:List mosaic_Radar} (c:R.length<=1000):∀(n i:Nat) (B:List (ByteArray×mosaic_Radar)),i<=R.length->R.length-i<n->K0 s R n B (i:Int)=some (⟨⟨s.Grid,s.Earth,R,s.Age⟩,A5i B (R.drop i),0,[],0,[]⟩,0):=by
 intro n
 induction n with
 | zero=>intro i B _ h;omega
 | succ n ih =>
  intro i B hi d;rw [K0];unfold Nn
  by_cases b:i<R.length
  ·rw [Bx (dT (by omega)),Ej i R[i] rfl (List.getElem?_eq_getElem b),ckb (by omega),List.drop_eq_getElem_cons b];exact ih (i+1) _ (by omega) (by omega)
  ·rw [Aq (dF (by omega)),List.drop_eq_nil_of_le (by omega)];rfl
theorem A7j (b:100<=F) (h:RG F s):Er F s=some (Um s,0):=by
 have d:=h.len;unfold Er Bu;rw [A7f b h,sbd,Aq (c:=(0:Int) != 0) rfl,Me (by simp;omega) (by decide),List.nil_append,sbd];exact A95 (F:=F) (by omega) F 0 [] (by omega) (by omega)
theorem Yn {c d:α->α->Int} {x y:α} (h:Wl c d x y=0):c x y=0/\d x y=0:=by
 unfold Wl at h
 by_cases a:c x y=0
 ·rw [if_neg (by simpa using a)] at h;exact ⟨a,h⟩
 ·rw [if_pos a] at h;exact absurd h a
theorem B0j (h:c3 a b=0):a=b:=by
 unfold c3 at h
 repeat' split at h
 all_goals first|omega|simp at h
theorem baL {a b:ByteArray} (h:a.toList=b.toList):a=b:=by
 apply Vx.1;rw [←Q3,h];exact beq_self_eq_true _
theorem A7v {x y:BK} (h:A0r x y=0):x.2=y.2:=by
 rw [A54] at h;have h1:=(Yn (Yn h).2).2;obtain ⟨b,c⟩:=Yn h1;obtain ⟨d,e⟩:=Yn c;have e1:=B0j b;have e2:=baL (Rt.1 d);have e3:=B0j e;obtain ⟨xb,n,t,u⟩:=x;obtain ⟨yb,n',t',u'⟩:=y;dsimp only at e1 e2 e3 ⊢;rw [e1,e2,e3]
theorem A9g {p:Nat} {x x':mosaic_Pixel} (G:mosaic_Key->Prop) (r:∀k,¬G k->(k∈Tc s N t↔k∈Tc s N' t)) (hk:∀k,¬G k->k∈Tc s N t->kl N.kept k=kl N'.kept k)
  (hx:Xy ((Tc s N t).map (Jo F s N)) p x) (i:Xy ((Tc s N' t).map (Jo F s N')) p x') (g:¬G x.Key) (g':¬G x'.Key):x=x':=by
 rcases hx with ⟨rfl,h1⟩|⟨u,hm,b,v,h1,z,h3,rfl,h5⟩
 ·rcases i with ⟨rfl,_⟩|⟨u',d,b',v',c,f,j,rfl,l⟩
  ·rfl
  ·obtain ⟨k,y,rfl⟩:=List.mem_map.1 d;exact absurd f (h1 (Jo F s N k) (List.mem_map.2 ⟨k,(r k g').2 y,rfl⟩) b' c)
 ·obtain ⟨k,m,rfl⟩:=List.mem_map.1 hm;have n:=(r k g).1 m;rcases i with ⟨rfl,c⟩|⟨u',d,b',v',c,f,j,rfl,l⟩
  ·exact absurd z (c (Jo F s N' k) (List.mem_map.2 ⟨k,n,rfl⟩) b h1)
  ·obtain ⟨k',o,rfl⟩:=List.mem_map.1 d;have q:=(r k' g').2 o;have a1:=h5 (Jo F s N k') (List.mem_map.2 ⟨k',q,rfl⟩) b' c f;have a2:=l (Jo F s N' k) (List.mem_map.2 ⟨k,n,rfl⟩) b h1 z;have e:A0r (b,k) (b',k')=0:=by
    rcases betC_ok.ay (b,k) (b',k') with h|h|h
    ·exact absurd h a2
    ·exact h
    ·exact absurd h a1
   have ek:k=k':=A7v e;subst ek;have ev:(Jo F s N k).vals=(Jo F s N' k).vals:=by
    show ((kl N.kept k)[0]?).getD []=((kl N'.kept k)[0]?).getD [];rw [hk k g m]
   rw [ev,j] at h3
   cases h3
   rfl
theorem A43 (h:k≠m.Key):kl (Sn N m r).kept k=kl N.kept k:=by
 unfold kl;show (lkM (upM N.kept m.Key _) k).getD []=_;rw [X6,if_neg h]
theorem cmpS_ok:C3 N6:=Vm (A1z λx:api_Span=>x.Lo) (A1z λx:api_Span=>x.Hi)
theorem A85 {x y:api_Span} (h:N6 x y=0):x=y:=by
 obtain ⟨h1,e⟩:=Yn (c:=λx y:api_Span=>c3 x.Lo y.Lo) (d:=λx y:api_Span=>c3 x.Hi y.Hi) h;obtain ⟨a,b⟩:=x;obtain ⟨c,d⟩:=y;have:=B0j h1;have:=B0j e;dsimp only at *
 subst_vars
 rfl
theorem Tg (x:List api_Span):G9 x x=0:=by
 induction x with
 | nil=>rfl
 | cons a x ih =>
  show (if N6 a a≠0 then N6 a a else G9 x x)=0;rw [if_neg (by simpa using cmpS_ok.rf a),ih]
theorem A86:∀{x y:List api_Span},G9 x y=0->x=y
 | [],[],_=>rfl
 | [],_::_,h=>by simp [G9] at h
 | _::_,[],h=>by simp [G9] at h
 | a::x,b::y,h=>by
  have h:(if N6 a b≠0 then N6 a b else G9 x y)=0:=h
  by_cases c:N6 a b=0
  ·rw [if_neg (by simpa using c)] at h;rw [A85 c,A86 h]
  ·rw [if_pos c] at h;exact absurd h c
theorem Th:∀{x y z:List api_Span},G9 x y<0->G9 y z<0->G9 x z<0
 | [],[],_,h,_=>by simp [G9] at h
 | [],_::_,[],_,h=>by simp [G9] at h
 | [],_::_,_::_,_,_=>by simp [G9]
 | _::_,[],_,h,_=>by simp [G9] at h
 | _::_,_::_,[],_,h=>by simp [G9] at h
 | a::x,b::y,c::z,h,k=>by
  have h:(if N6 a b≠0 then N6 a b else G9 x y)<0:=h;have k:(if N6 b c≠0 then N6 b c else G9 y z)<0:=k;show (if N6 a c≠0 then N6 a c else G9 x z)<0
  by_cases p:N6 a b=0
  ·rw [if_neg (by simpa using p)] at h;rw [cmpS_ok.e1 a b c p]
   by_cases q:N6 b c=0
   ·rw [if_neg (by simpa using q)] at k ⊢;exact Th h k
   ·rw [if_pos q] at k ⊢;exact k
  ·rw [if_pos p] at h
   by_cases q:N6 b c=0
   ·rw [←cmpS_ok.e2 a b c q,if_pos p];exact h
   ·rw [if_pos q] at k;have:=cmpS_ok.tr a b c h k;rw [if_pos (by omega)];exact this
theorem A57:∀{x y:List api_Span},G9 x y<0\/G9 x y=0\/G9 y x<0
 | [],[]=>.inr (.inl rfl)
 | [],_::_=>.inl (by simp [G9])
 | _::_,[]=>.inr (.inr (by simp [G9]))
 | a::x,b::y=>by
  show (if N6 a b≠0 then N6 a b else G9 x y)<0\/(if N6 a b≠0 then N6 a b else G9 x y)=0\/(if N6 b a≠0 then N6 b a else G9 y x)<0;rcases cmpS_ok.ay a b with h|h|h
  ·left;rw [if_pos (by omega)];exact h
  ·have h':N6 b a=0:=by rw [A85 h];exact cmpS_ok.rf _
   rw [if_neg (by simpa using h),if_neg (by simpa using h')];exact A57
  ·right;right;rw [if_pos (by omega)];exact h
theorem B0m {x y:List api_Span} (h:G9 x y<0):¬G9 y x<0:=λk=>by
 have:=Th h k;rw [Tg] at this;omega
abbrev Srt (l:List (List api_Span)):Prop:=l.Pairwise (λx y=>G9 x y<0)
theorem A9w:∀{l k:List (List api_Span)},Srt l->Srt k->(∀x,x∈l↔x∈k)->l=k
 | [],[],_,_,_=>rfl
 | [],b::k,_,_,h=>by cases (h b).2 (.head _)
 | a::l,[],_,_,h=>by cases (h a).1 (.head _)
 | a::l,b::k,g,i,h=>by
  have c:=List.pairwise_cons.1 g;have d:=List.pairwise_cons.1 i;have e:a=b:=by
   rcases List.mem_cons.1 ((h a).1 (.head _)) with e|e
   ·exact e
   ·rcases List.mem_cons.1 ((h b).2 (.head _)) with e'|e'
    ·exact e'.symm
    ·exact absurd (c.1 b e') (B0m (d.1 a e))
  subst e;rw [A9w c.2 d.2 λx=>?_];constructor
  ·intro f;rcases List.mem_cons.1 ((h x).1 (.tail _ f)) with e|e
   ·subst e;have:=c.1 _ f;rw [Tg] at this;omega
   ·exact e
  ·intro f;rcases List.mem_cons.1 ((h x).2 (.tail _ f)) with e|e
   ·subst e;have:=d.1 _ f;rw [Tg] at this;omega
   ·exact e
def has (N:mosaic_Node) (m:mosaic_Message):Prop:=m.Vals∈kl N.kept m.Key
structure SN (F:Nat) (s:mosaic_Spec) (N:mosaic_Node):Prop where
 ni:NI F s N
 so:∀k,Srt (kl N.kept k)
 vs:∀k,∀v∈kl N.kept k,∀x∈v,0<=x.Lo/\x.Lo<=x.Hi/\x.Hi<=1000000
theorem SN.okm (h:SN F s N) (b:has N m):okM s m:=by
 have c:m.Key∈ksN N:=by
  rw [A19];unfold has kl at b
  cases e:lkM N.kept m.Key with
  | none=>rw [e] at b;cases b
  | some l=>exact ⟨l,rfl⟩
 exact ⟨(h.ni.key c).1,h.ni.kl_ok _ _ b,h.vs _ _ b⟩
theorem SN.kl_eq (h:SN F s N) (h':SN F s N') (e:∀m,has N m↔has N' m) (k:mosaic_Key):kl N.kept k=kl N'.kept k :=
 A9w (h.so k) (h'.so k) λx=>e ⟨k,x⟩
theorem B1q {l:List (List api_Span)} {v:List api_Span} (f:Srt l) (j:r<=l.length) (h1:r=0\/∃x,l[r-1]? = some x/\G9 x v<0) (g:r=l.length\/∃x,l[r]? = some x/\G9 v x<0):Srt (T0 l r v):=by
 unfold T0;have lo:∀x∈l.take r,G9 x v<0:=by
  intro x b;obtain ⟨i,hi,rfl⟩:=List.mem_take_iff_getElem.1 b;rcases h1 with h1|⟨y,d,c⟩
  ·omega
  ·obtain ⟨e,rfl⟩:=List.getElem?_eq_some_iff.1 d;rcases Nat.lt_or_ge i (r-1) with h|h
   ·exact Th (List.pairwise_iff_getElem.1 f i (r-1) (by omega) e h) c
   ·have:i=r-1:=by omega
    subst this;exact c
 have hi:∀x∈l.drop r,G9 v x<0:=by
  intro x b;obtain ⟨i,hi,rfl⟩:=List.mem_drop_iff_getElem.1 b;rcases g with g|⟨y,d,c⟩
  ·omega
  ·obtain ⟨e,rfl⟩:=List.getElem?_eq_some_iff.1 d;rcases Nat.eq_zero_or_pos i with h|h
   ·subst h;exact c
   ·exact Th c (List.pairwise_iff_getElem.1 f r (r+i) e (by omega) (by omega))
 refine List.pairwise_append.2 ⟨List.pairwise_append.2 ⟨f.sublist (List.take_sublist _ _),List.pairwise_singleton _ _,λx b y d=>?_⟩,f.sublist (List.drop_sublist _ _),λx b y d=>?_⟩
 ·rw [List.mem_singleton.1 d];exact lo x b
 ·rcases List.mem_append.1 b with b|b
  ·exact Th (lo x b) (hi y d)
  ·rw [List.mem_singleton.1 b];exact hi y d
theorem T1:kl (Sn N m r).kept m.Key=T0 (kl N.kept m.Key) r m.Vals:=by
 unfold kl;show (lkM (upM N.kept m.Key _) m.Key).getD []=_;rw [A5r];rfl
theorem Xs {x:mosaic_Message} :has (Sn N m r) x↔x=m\/has N x:=by
 unfold has
 by_cases h:x.Key=m.Key
 ·rw [h,T1,Wj];constructor
  ·rintro (e|e)
   ·left;obtain ⟨k,v⟩:=x;obtain ⟨k',v'⟩:=m;dsimp only at *;rw [h,e]
   ·exact .inr e
  ·rintro (e|e)
   ·left;rw [e]
   ·exact .inr e
 ·rw [A43 h];exact ⟨.inr,λe=>e.elim (λe=>absurd (by rw [e]) h) id⟩
theorem SN.put (h:SN F s N) (c:okM s m) (d:r<=(kl N.kept m.Key).length) (h1:r=0\/∃x,(kl N.kept m.Key)[r-1]? = some x/\G9 x m.Vals<0) (f:r=(kl N.kept m.Key).length\/∃x,(kl N.kept m.Key)[r]? = some x/\G9 m.Vals x<0):SN F s (Sn N m r):=by
 refine ⟨h.ni.put c d,λk=>?_,λk v b=>?_⟩
 ·by_cases e:k=m.Key
  ·subst e;rw [T1];exact B1q (h.so _) d h1 f
  ·rw [A43 e];exact h.so k
 ·by_cases e:k=m.Key
  ·subst e;rw [T1] at b;rcases Wj.1 b with rfl|b
   ·exact c.vals
   ·exact h.vs _ _ b
  ·rw [A43 e] at b;exact h.vs _ _ b
theorem Wq (v:1000<=F) (hs:GS F s) (h:SN F s N) (z:tot N.kept<900) :
  ∃(r:Nat) (b:Bool),Cz F N m=some ((r:Int),b)/\r<=(kl N.kept m.Key).length/\(b=true↔has N m)/\(b=false->okM s m->SN F s (Sn N m r)):=by
 have h2:=hs.small;have h3:=A8t N.kept m.Key;obtain ⟨r,b,e,r1,r2,r3,r4⟩:=A9h (F:=F) (by omega) N m (by omega) (λx g=>by rw [h.ni.kl_ok _ x g];omega);have lo:∀i,i<r->∀x,(kl N.kept m.Key)[i]? = some x->G9 x m.Vals<0:=by
  intro i hi x g;obtain ⟨k,rfl⟩:=List.getElem?_eq_some_iff.1 g;rcases r3 with r3|⟨y,f,j⟩
  ·omega
  ·obtain ⟨d,rfl⟩:=List.getElem?_eq_some_iff.1 f;rcases Nat.lt_or_ge i (r-1) with h'|h'
   ·exact Th (List.pairwise_iff_getElem.1 (h.so m.Key) i (r-1) k d h') j
   ·have:i=r-1:=by omega
    subst this;exact j
 have hb:b=true↔has N m:=by
  rw [r2];constructor
  ·rintro ⟨x,g,t⟩;have:=A86 t;subst this;exact List.mem_iff_getElem?.2 ⟨r,g⟩
  ·intro l;obtain ⟨i,hi⟩:=List.mem_iff_getElem?.1 l;have n:r<=i:=by
    rcases Nat.lt_or_ge i r with h'|h'
    ·have:=lo i h' _ hi;rw [Tg] at this;omega
    ·exact h'
   obtain ⟨o,p⟩:=List.getElem?_eq_some_iff.1 hi;rcases r4 with r4|⟨y,f,q⟩
   ·omega
   ·rcases Nat.eq_or_lt_of_le n with e|e
    ·subst e;exact ⟨_,hi,Tg _⟩
    ·obtain ⟨d,rfl⟩:=List.getElem?_eq_some_iff.1 f;have:=List.pairwise_iff_getElem.1 (h.so m.Key) r i d o e;rw [p] at this;exact absurd this q
 refine ⟨r,b,e,r1,hb,λu l=>h.put l r1 r3 ?_⟩;rcases r4 with r4|⟨y,f,q⟩
 ·exact .inl r4
 ·right;refine ⟨y,f,?_⟩;rcases A57 (x:=y) (y:=m.Vals) with c|c|c
  ·exact absurd c q
  ·have:b=true:=r2.2 ⟨y,f,c⟩;rw [u] at this;cases this
  ·exact c
theorem SN.lk (h:SN F s N) {L:List (mosaic_where×List api_Span)} (b:LV F s L):SN F s ⟨N.spec,N.radars,N.horizon,N.kept,N.count,L⟩:=⟨⟨h.ni.spec,h.ni.radars,h.ni.nd,h.ni.ok,h.ni.count,b⟩,h.so,h.vs⟩
instance lawfulBA:LawfulBEq ByteArray where
 eq_of_beq:=λh=>(baE _ _).1 h
 rfl:=(baE _ _).2 rfl
theorem R5:m∈Nv N↔has N m:=A93
theorem A8h (c:(B.map (·.1)).Nodup):((B.map (·.1)).flatMap λk=>(kl B k).map (mosaic_Message.mk k)).length=tot B:=by
 induction B with
 | nil=>rfl
 | cons p B ih =>
  rw [List.map_cons,List.nodup_cons] at c;rw [List.map_cons,List.flatMap_cons,List.length_append,List.length_map];have e1:tot (p::B)=p.2.length+tot B:=by simp [tot]
  have e2:kl (p::B) p.1=p.2:=by unfold kl lkM;rw [if_pos rfl];rfl
  have e3:((B.map (·.1)).flatMap λk=>(kl (p::B) k).map (mosaic_Message.mk k))=(B.map (·.1)).flatMap λk=>(kl B k).map (mosaic_Message.mk k):=by
   have fm:∀l:List mosaic_Key,(∀x∈l,x∈B.map (·.1))->(l.flatMap λk=>(kl (p::B) k).map (mosaic_Message.mk k))=l.flatMap λk=>(kl B k).map (mosaic_Message.mk k):=by
    intro l
    induction l with
    | nil=>intro _;rfl
    | cons x l ih =>
     intro b;rw [List.flatMap_cons,List.flatMap_cons,ih λy d=>b y (.tail _ d)];have:kl (p::B) x=kl B x:=by
      unfold kl;show (if x=p.1 then some p.2 else lkM B x).getD []=_;rw [if_neg (λe:x=p.1=>c.1 (e▸b x (.head _)))]
     rw [this]
   exact fm _ λx b=>b
  rw [e1,e2,e3,ih c.2]
theorem R6 (h:NI F s N):(Nv N).length=tot N.kept:=by
 have:=(List.Perm.flatMap_right (λk=>(kl N.kept k).map (mosaic_Message.mk k)) (Mh N).2.1).length_eq;exact this.trans (A8h h.nd)
structure Same (F:Nat) (s:mosaic_Spec) (N N':mosaic_Node):Prop where
 a:SN F s N
 b:SN F s N'
 hz:N.horizon=N'.horizon
 hs:∀x,has N x↔has N' x
section
theorem Same.kl (h:Same F s N N') (k:mosaic_Key):kl N.kept k=Go.Proofs.YtjfhcbjhjeklbaaGreat.kl N'.kept k:=h.a.kl_eq h.b h.hs k
theorem B2n (h:NI F s N) :k∈ksN N↔kl N.kept k≠[]:=by
 constructor
 ·exact λb=>(h.key b).2
 ·intro b;rw [A19];unfold kl at b
  cases e:lkM N.kept k with
  | none=>rw [e] at b;exact absurd rfl b
  | some l=>exact ⟨l,rfl⟩
theorem Same.ks (h:Same F s N N'):ksN N=ksN N':=by
 refine Z3 ((List.perm_ext_iff_of_nodup h.a.ni.nd h.b.ni.nd).2 λk=>?_);rw [←(Mh N).2.1.mem_iff,←(Mh N').2.1.mem_iff,B2n h.a.ni,B2n h.b.ni,h.kl]
theorem Same.ms (h:Same F s N N'):Nv N=Nv N':=by
 unfold Nv;rw [h.ks]
 congr 1
 funext k
 rw [h.kl]
theorem Same.tot (h:Same F s N N'):tot N.kept=Go.Proofs.YtjfhcbjhjeklbaaGreat.tot N'.kept:=by
 rw [←R6 h.a.ni,←R6 h.b.ni,h.ms]
theorem Same.cnt (h:Same F s N N'):N.count=N'.count:=by rw [h.a.ni.count,h.b.ni.count,h.tot]
theorem Same.fit (h:Same F s N N') (t:Int):Pu s N t=Pu s N' t:=by
 funext k
 unfold Pu;rw [h.kl]
theorem Same.use (h:Same F s N N') (t:Int):Tc s N t=Tc s N' t:=by
 unfold Tc Xh;rw [h.ks,h.fit]
end
theorem A8y (d:1000<=F) (hs:GS F s) (h:Same F s N N') (e:tot N.kept<900) (f:0<=t/\t<=4294967296) (g:N.horizon<=t) :
  ∃(o o':List mosaic_Pixel) (L L':List (mosaic_where×List api_Span)),D6 F N t=some (o,0,L)/\D6 F N' t=some (o',0,L')/\LV F s L/\LV F s L'/\o.length=pix s/\o'.length=pix s/\∀(p:Nat) (x x':mosaic_Pixel),o[p]? = some x->o'[p]? = some x'->x=x':=by
 obtain ⟨o,L,a1,a2,a3,a4⟩:=A7h d hs h.a.ni e f g;obtain ⟨o',L',b1,b2,b3,b4⟩:=A7h d hs h.b.ni (by rw [←h.tot];exact e) f (by rw [←h.hz];exact g);refine ⟨o,o',L,L',a1,b1,a2,b2,a3,b3,λp x x' i c=>?_⟩;exact A9g (λ_=>False) (λk _=>by rw [h.use]) (λk _ _=>h.kl k) (a4 p x i) (b4 p x' c) id id
def Byt (l:List Int):Prop:=∀x∈l,0<=x/\x<=255
theorem B5c {l:List α} {k:Nat} (h:k<=l.length):K4 l 0 (k:Int)=some (l.take k):=by
 unfold K4;rw [if_pos (by omega),Int.toNat_natCast,Int.toNat_zero,List.drop_zero,Nat.sub_zero]
theorem B5d {l:List α} {k:Nat} (h:k<=l.length):K4 l (k:Int) (l.length:Int)=some (l.drop k):=by
 unfold K4;rw [if_pos (by omega),Int.toNat_natCast,Int.toNat_natCast,List.take_of_length_le (by rw [List.length_drop];omega)]
theorem B6q {sh:Nat} {v c:Int} (d:sh<=28) (i:0<=v/\v<((2 ^ sh:Nat):Int)) (j:0<=c/\c<128):∃y,A9s .i64 c (sh:Int)=some y/\orK .i64 v y=v+c*((2 ^ sh:Nat):Int):=by
 have k:2 ^ sh<=2 ^ 28:=Nat.pow_le_pow_right (by omega) d;have f:(2 ^ 28:Nat)=268435456:=by decide
 rw [f] at k;obtain ⟨a,rfl⟩:=Int.eq_ofNat_of_zero_le i.1;obtain ⟨b,rfl⟩:=Int.eq_ofNat_of_zero_le j.1;have hb:b<=127:=by omega
 have l:a<2 ^ sh:=by omega
 have m:b*2 ^ sh<=127*2 ^ sh:=Nat.mul_le_mul_right _ hb;have e2:((b:Int)*((2 ^ sh:Nat):Int))=((b*2 ^ sh:Nat):Int):=(Int.natCast_mul _ _).symm;refine ⟨((b*2 ^ sh:Nat):Int),?_,?_⟩
 ·unfold A9s;have e1:min ((sh:Int)).toNat IntKind.i64.bits=sh:=by
   rw [Int.toNat_natCast];exact Nat.min_eq_left (show sh<=64 by omega)
  have e3:((2:Int) ^ sh)=((2 ^ sh:Nat):Int):=(Int.natCast_pow 2 sh).symm;rw [if_pos (by omega),e1,e3,e2,B0a (by omega)]
 ·have g:((2 ^ IntKind.i64.bits:Nat):Int)=18446744073709551616:=by decide
  have e:(BitVec.ofInt IntKind.i64.bits (a:Int) ||| BitVec.ofInt IntKind.i64.bits ((b*2 ^ sh:Nat):Int)).toNat=a+b*2 ^ sh:=by
   rw [BitVec.toNat_or,BitVec.toNat_ofInt,BitVec.toNat_ofInt,g,Int.emod_eq_of_lt (by omega) (by omega),Int.emod_eq_of_lt (by omega) (by omega),Int.toNat_natCast,Int.toNat_natCast,Nat.or_comm,Nat.mul_comm b,←Nat.two_pow_add_eq_or_of_lt l b,Nat.add_comm]
  unfold orK;rw [e,B0a (by omega),e2];omega
theorem B0p {a b:List Int} (g:a.length=b.length) (j:a.length<=1000000):∀(n i:Nat),i<=a.length->a.length-i<n->Cy a b n (i:Int)=some (decide (a.drop i=b.drop i)):=by
 intro n
 induction n with
 | zero=>intro i _ h;omega
 | succ n ih =>
  intro i hi k;rw [Cy];unfold Em
  by_cases f:i<a.length
  ·have d:i<b.length:=by omega
   rw [Bx (dT (by omega)),Ej i _ rfl (List.getElem?_eq_getElem f),Ej i _ rfl (List.getElem?_eq_getElem d),List.drop_eq_getElem_cons f,List.drop_eq_getElem_cons d]
   by_cases e:a[i]=b[i]
   ·rw [Aq (c:=a[i] != b[i]) (by simpa using e),ckb (by omega)];refine (ih (i+1) f (by omega)).trans (congrArg some (decide_eq_decide.2 ⟨λh=>by rw [e,h],λh=>?_⟩));injection h
   ·rw [Bx (c:=a[i] != b[i]) (by simpa using e),dF (λh=>by injection h with h1 l;exact e h1)]
  ·rw [Aq (dF (by omega)),List.drop_eq_nil_of_le (by omega),List.drop_eq_nil_of_le (by omega),dT rfl];rfl
theorem A7g {a b:List Int} (d:a.length<=1000000) (f:a.length<F):Dn F a b=some (decide (a=b)):=by
 unfold Dn
 by_cases c:a.length=b.length
 ·have:=B0p c d F 0 (Nat.zero_le _) (by omega);rw [List.drop_zero,List.drop_zero] at this;rw [Aq (by rw [c];simp)];exact this
 ·rw [Bx (by rw [bne_iff_ne];omega),dF (λe=>c (by rw [e]))]
def Pj:Nat->Int->List Int
 | 0,n=>[IntKind.u8.wrap n]
 | k+1,n=>if n>=128 then IntKind.u8.wrap (n.tmod 128+128)::Pj k (n/128) else [IntKind.u8.wrap n]
theorem A2w:∀(k:Nat) (n:Int),(Pj k n).length<=k+1
 | 0,_=>Nat.le_refl _
 | k+1,n=>by
  unfold Pj
  split
  ·rw [List.length_cons];have:=A2w k (n/128);omega
  ·simp
theorem u8B (x:Int):0<=IntKind.u8.wrap x/\IntKind.u8.wrap x<=255:=by rw [IntKind.wrap_u8];omega
theorem Nw:∀(k:Nat) (n:Int),Byt (Pj k n)
 | 0,n=>λx b=>by
  have:x∈[IntKind.u8.wrap n]:=b;rw [List.mem_singleton.1 this];exact u8B _
 | k+1,n=>λx b=>by
  unfold Pj at b
  split at b
  ·rcases List.mem_cons.1 b with e|e
   ·rw [e];exact u8B _
   ·exact Nw k _ x e
  ·rw [List.mem_singleton.1 b];exact u8B _
theorem A04:∀(k j:Nat) (n:Int),n<128 ^ (k+1)->Pj (k+j) n=Pj k n
 | 0,j,n,h=>by
  have h:n<128:=by simpa using h
  rw [Nat.zero_add]
  cases j with
  | zero=>rfl
  | succ j =>
   show (if n>=128 then _ else _)=_;rw [if_neg (by omega)];rfl
 | k+1,j,n,h=>by
  rw [show k+1+j=(k+j)+1 by omega];show (if n>=128 then _::Pj (k+j) (n/128) else _)=(if n>=128 then _::Pj k (n/128) else _)
  by_cases b:n>=128
  ·rw [if_pos b,if_pos b,A04 k j (n/128) (by rw [Int.pow_succ] at h;exact Int.ediv_lt_of_lt_mul (by omega) h)]
  ·rw [if_neg b,if_neg b]
theorem B5u:∀(k f:Nat) (n:Int) (l:List Int),0<=n->n<128 ^ (k+1)->n<=4000000000000000000->k<f->l.length+k<=1000000000->Es f l n=some (l++Pj k n):=by
 intro k
 induction k with
 | zero =>
  intro f n l c h1 _ d i;obtain ⟨f,rfl⟩:∃g,f=g+1:=⟨f-1,by omega⟩;rw [Es];unfold J2;rw [Aq (dF (by omega))];unfold J3;rw [Me (by simp;omega) (by decide)];rfl
 | succ k ih =>
  intro f n l c h1 o d i;obtain ⟨f,rfl⟩:∃g,f=g+1:=⟨f-1,by omega⟩;rw [Es];unfold J2
  by_cases b:n>=128
  ·have j:=Int.tmod_nonneg 128 c;have m:=Int.tmod_lt_of_pos n (show (0:Int)<128 by omega);have hd:n/128<128 ^ (k+1):=by
    rw [Int.pow_succ] at h1;exact Int.ediv_lt_of_lt_mul (by omega) h1
   have e:Pj (k+1) n=IntKind.u8.wrap (n.tmod 128+128)::Pj k (n/128):=by rw [Pj,if_pos b]
   rw [Bx (dT b),B6e (by omega),ckb (by omega),Me (by simp;omega) (by decide),A71 c (by omega) (by omega),e];have q1:=ih f (n/128) (l++[IntKind.u8.wrap (n.tmod 128+128)]) (by omega) hd (by omega) (by omega) (by simp;omega);rw [List.append_assoc,List.singleton_append] at q1;exact q1
  ·have e:Pj (k+1) n=[IntKind.u8.wrap n]:=by rw [Pj,if_neg b]
   rw [Aq (dF b),e];unfold J3;rw [Me (by simp;omega) (by decide)]
abbrev nmB (n:Int):List Int:=Pj 9 n
theorem B66:(1000000000000000000:Int)<128 ^ (9+1):=by decide
theorem A4c (c:20<=F) {n:Int} (b:0<=n) (h1:n<=1000000000000000000) (d:l.length<=100000000):E9 F l n=some (l++nmB n) :=
 B5u 9 F n l b (Int.lt_of_le_of_lt h1 B66) (by omega) (by omega) (by omega)
theorem Kf (n:Int):(nmB n).length<=10:=A2w 9 n
theorem A1c {c v:Int} (hi:i<=4) (b:0<=c/\c<=255) (d:0<=v) (h1:v<((2 ^ (7*i):Nat):Int)) :
  C4 F (n+1) (c::l) v ((7*i:Nat):Int)=bif decide (c<128) then some (v+c.tmod 128*((2 ^ (7*i):Nat):Int),⟨l⟩) else C4 F n l (v+c.tmod 128*((2 ^ (7*i):Nat):Int)) ((7*(i+1):Nat):Int):=by
 have t0:=Int.tmod_nonneg 128 b.1;have t1:=Int.tmod_lt_of_pos c (show (0:Int)<128 by omega);have c1:K4 (c::l) (0:Int) 1=some [c]:=B5c (l:=c::l) (k:=1) (by simp);have c2:K4 (c::l) 1 (((c::l).length:Nat):Int)=some l:=B5d (l:=c::l) (k:=1) (by simp);have g0:∀{β:Type} (f:Int->Option β),(Cj [c] 0).bind f=f c:=λf=>rfl;obtain ⟨y,s1,s2⟩:=B6q (sh:=7*i) (v:=v) (c:=c.tmod 128) (by omega) ⟨d,h1⟩ ⟨t0,t1⟩;rw [C4];unfold F5;rw [Bx (dT (by omega))];unfold Bq Ee;rw [Aq (c:=decide ((1:Int)>(((c::l).length:Nat):Int))) (dF (by simp;omega)),c1,sbd,c2,sbd,sbd,g0,ckb (by omega),B6e (by omega),s1,sbd,ckb (by omega),s2];rw [show ((7*i:Nat):Int)+7=((7*(i+1):Nat):Int) by omega]
theorem pw7 (hi:i<=4):1<=2 ^ (7*i)/\2 ^ (7*i)<=268435456/\(2 ^ (7*(i+1)):Nat)=2 ^ (7*i)*128:=by
 have c:2 ^ (7*i)<=2 ^ 28:=Nat.pow_le_pow_right (by omega) (by omega);have b:(2 ^ 28:Nat)=268435456:=by decide
 exact ⟨Nat.one_le_two_pow,by omega,by rw [show 7*(i+1)=7*i+7 by omega,Nat.pow_add]⟩
theorem tmB {c v:Int} (hi:i<=4) (b:0<=c/\c<=255) (f:0<=v) (h1:v<((2 ^ (7*i):Nat):Int)):0<=v+c.tmod 128*((2 ^ (7*i):Nat):Int)/\v+c.tmod 128*((2 ^ (7*i):Nat):Int)<((2 ^ (7*(i+1)):Nat):Int)/\v+c.tmod 128*((2 ^ (7*i):Nat):Int)<34359738368:=by
 have t0:=Int.tmod_nonneg 128 b.1;have t1:=Int.tmod_lt_of_pos c (show (0:Int)<128 by omega);obtain ⟨p1,p2,p3⟩:=pw7 hi;have d:c.tmod 128*((2 ^ (7*i):Nat):Int)<=127*((2 ^ (7*i):Nat):Int):=Int.mul_le_mul_of_nonneg_right (by omega) (by omega);have e:0<=c.tmod 128*((2 ^ (7*i):Nat):Int):=Int.mul_nonneg t0 (by omega);rw [p3];generalize c.tmod 128*((2 ^ (7*i):Nat):Int)=z at *;generalize 2 ^ (7*i)=q at *;omega
theorem B5v {r:List Int}:∀(k n i:Nat) (x v:Int),i+k<=4->k<n->0<=x->x<128 ^ (k+1)->0<=v->v<((2 ^ (7*i):Nat):Int) ->
  C4 F n (Pj k x++r) v ((7*i:Nat):Int)=some (v+x*((2 ^ (7*i):Nat):Int),⟨r⟩):=by
 intro k
 induction k with
 | zero =>
  intro n i x v hi j f b d h1;obtain ⟨n,rfl⟩:∃m,n=m+1:=⟨n-1,by omega⟩;have b:x<128:=by simpa using b
  have e:Pj 0 x=[x]:=by show [IntKind.u8.wrap x]=[x];rw [IntKind.wrap_u8];congr 1;omega
  rw [e,List.singleton_append,A1c (by omega) (by omega) d h1,Bx (dT b),Int.tmod_eq_of_lt f b]
 | succ k ih =>
  intro n i x v hi j f b d h1;obtain ⟨n,rfl⟩:∃m,n=m+1:=⟨n-1,by omega⟩
  by_cases g:x>=128
  ·have l:x.tmod 128=x%128:=Int.tmod_eq_emod_of_nonneg f;have e:Pj (k+1) x=(x%128+128)::Pj k (x/128):=by
    rw [Pj,if_pos g,l,IntKind.wrap_u8];congr 1;omega
   have e2:(x%128+128).tmod 128=x%128:=by rw [Int.tmod_eq_emod_of_nonneg (by omega)];omega
   have hb:=tmB (c:=x%128+128) (v:=v) (i:=i) (by omega) (by omega) d h1;have hd:x/128<128 ^ (k+1):=by
    rw [Int.pow_succ] at b;exact Int.ediv_lt_of_lt_mul (by omega) b
   rw [e,List.cons_append,A1c (by omega) (by omega) d h1,Aq (dF (by omega))];rw [e2] at hb ⊢;rw [ih n (i+1) (x/128) _ (by omega) (by omega) (by omega) hd hb.1 hb.2.1];obtain ⟨_,_,p3⟩:=pw7 (i:=i) (by omega);rw [p3];have e3:((2 ^ (7*i)*128:Nat):Int)=((2 ^ (7*i):Nat):Int)*128:=Int.natCast_mul _ _;rw [e3];generalize ((2 ^ (7*i):Nat):Int)=q;have e4:x=x%128+128*(x/128):=by omega
   have e5:x*q=x%128*q+x/128*(q*128):=by
    conv=>lhs;rw [e4]
    rw [Int.add_mul,Int.mul_assoc,←Int.mul_assoc (x/128) q 128,Int.mul_comm (x/128*q) 128]
   rw [e5,Int.add_assoc]
  ·have e:Pj (k+1) x=[x]:=by
    rw [Pj,if_neg g,IntKind.wrap_u8];congr 1;omega
   rw [e,List.singleton_append,A1c (by omega) (by omega) d h1,Bx (dT (by omega)),Int.tmod_eq_of_lt f (by omega)]
theorem Z0 {r:List Int} (d:10<=F) (c:0<=x) (h1:x<34359738368):Al F ⟨nmB x++r⟩=some (x,⟨r⟩):=by
 have b:x<128 ^ (4+1):=by
  have:(128:Int) ^ (4+1)=34359738368:=by decide
  omega
 have:=B5v (F:=F) (r:=r) 4 F 0 x 0 (by omega) (by omega) c b (Int.le_refl _) (by decide);unfold Al;rw [show nmB x=Pj 4 x from A04 4 5 x b];refine this.trans ?_;rw [show ((2 ^ (7*0):Nat):Int)=1 from rfl,Int.mul_one,Int.zero_add]
theorem A9l {a r:List Int}:Bq F ⟨a++r⟩ (a.length:Int)=some (a,⟨r⟩):=by
 unfold Bq Ee;rw [Aq (dF (by show ¬(a.length:Int)>(((a++r).length:Nat):Int);rw [List.length_append];omega)),B5c (by simp),sbd,B5d (by simp),sbd,List.take_left,List.drop_left]
theorem B1u (x:Int):IntKind.u32.wrap x=x%4294967296:=by rw [IntKind.wrap_u32]
def chF:Int->List Int->Int
 | c,[]=>c
 | c,u::l=>chF ((31*c+u+1)%4294967296) l
def chB (c:Int):List Int:=[IntKind.u8.wrap (Int.fdiv c 16777216),IntKind.u8.wrap (Int.fdiv c 65536),IntKind.u8.wrap (Int.fdiv c 256),IntKind.u8.wrap c]
theorem A83 (hb:Byt l) (b:l.length<=100000000):∀(n i:Nat) (c:Int),i<=l.length->l.length-i<n->0<=c/\c<4294967296 ->
  Gu l n c (i:Int)=some (chB (chF c (l.drop i))):=by
 intro n
 induction n with
 | zero=>intro i c _ h;omega
 | succ n ih =>
  intro i c hi d f;rw [Gu];unfold Lp
  by_cases h:i<l.length
  ·have g:=hb _ (List.getElem_mem h);have e:IntKind.u32.wrap ((IntKind.u32.wrap ((IntKind.u32.wrap (31*c))+(IntKind.u32.wrap l[i])))+1)=(31*c+l[i]+1)%4294967296:=by
    rw [B1u,B1u,B1u,B1u];omega
   rw [Bx (dT (by omega)),Ej i _ rfl (List.getElem?_eq_getElem h),ckb (by omega),e,List.drop_eq_getElem_cons h];exact ih (i+1) _ h (by omega) (by omega)
  ·rw [Aq (dF (by omega)),List.drop_eq_nil_of_le (by omega)];rfl
theorem B33 (hb:Byt l) (b:l.length<=100000000) (c:l.length<F):Pi F l=some (chB (chF 1 l)):=by
 have:=A83 hb b F 0 1 (Nat.zero_le _) (by omega) (by decide);rw [List.drop_zero] at this;exact this
def Qy (v:api_Span):List Int:=nmB v.Lo++nmB (v.Hi-v.Lo)
def B0w (k:mosaic_Key):List Int:=nmB ((k.Name.size:Nat):Int)++(sby k.Name++(nmB k.Tilt++nmB k.Time))
def Mb (m:mosaic_Message):List Int:=B0w m.Key++m.Vals.flatMap Qy
theorem Qp (s:ByteArray):(sby s).length=s.size:=by unfold sby;rw [List.length_map];rfl
theorem B08 (v:api_Span):(Qy v).length<=20:=by
 unfold Qy;rw [List.length_append];have:=Kf v.Lo;have:=Kf (v.Hi-v.Lo);omega
theorem A0g:∀l:List api_Span,(l.flatMap Qy).length<=20*l.length
 | []=>by simp
 | v::l=>by
  rw [List.flatMap_cons,List.length_append,List.length_cons];have:=B08 v;have:=A0g l;omega
theorem A2t (h:m.Key.Name.size<=40):(Mb m).length<=70+20*m.Vals.length:=by
 unfold Mb B0w;rw [List.length_append,List.length_append,List.length_append,List.length_append,Qp];have:=Kf ((m.Key.Name.size:Nat):Int);have:=Kf m.Key.Tilt;have:=Kf m.Key.Time;have:=A0g m.Vals;omega
theorem Byt.app {a b:List Int} (h:Byt a) (k:Byt b):Byt (a++b):=λx c=>(List.mem_append.1 c).elim (h x) (k x)
theorem B1m (s:ByteArray):Byt (sby s):=by
 intro x c;unfold sby at c;obtain ⟨b,_,rfl⟩:=List.mem_map.1 c;have:=UInt8.toNat_lt b;omega
theorem B07 (v:api_Span):Byt (Qy v):=(Nw _ _).app (Nw _ _)
theorem A92 (m:mosaic_Message):Byt (Mb m):=by
 refine ((Nw _ _).app ((B1m _).app ((Nw _ _).app (Nw _ _)))).app λx b=>?_;obtain ⟨v,_,c⟩:=List.mem_flatMap.1 b;exact B07 v x c
structure SmM (P:Nat) (m:mosaic_Message):Prop where
 len:m.Vals.length=P
 vals:∀v∈m.Vals,0<=v.Lo/\v.Lo<=v.Hi/\v.Hi<=1000000
 name:m.Key.Name.size<=40
 tilt:0<=m.Key.Tilt/\m.Key.Tilt<=256
 time:0<=m.Key.Time/\m.Key.Time<=4294967296
theorem B7i {k2:Int->List Int->Option (List Int)} {u:mosaic_Message} (c:20<=F) (d:SmM P u) (f:P<=1000) (g:0<=x/\x<=1000000) :
  ∀(n i:Nat) (l:List Int),i<=P->P-i<n->l.length<=1000000+20*i->D7 F x k2 u n l (i:Int)=k2 (x+1) (l++(u.Vals.drop i).flatMap Qy):=by
 have e:=d.len;intro n
 induction n with
 | zero=>intro i l _ h;omega
 | succ n ih =>
  intro i l hi j k;rw [D7];unfold F2
  by_cases b:i<u.Vals.length
  ·obtain ⟨v1,v2,v3⟩:=d.vals _ (List.getElem_mem b);have n1:=Kf u.Vals[i].Lo;have n2:=Kf (u.Vals[i].Hi-u.Vals[i].Lo);rw [Bx (dT (by omega)),Ej i u.Vals[i] rfl (List.getElem?_eq_getElem b),ckb (by omega),A4c c v1 (by omega) (by omega),sbd,A4c c (by omega) (by omega) (by simp;omega),sbd,ckb (by omega)];have:=ih (i+1) (l++nmB u.Vals[i].Lo++nmB (u.Vals[i].Hi-u.Vals[i].Lo)) (by omega) (by omega) (by simp;omega);rw [List.drop_eq_getElem_cons b,List.flatMap_cons,←List.append_assoc];refine this.trans ?_;rw [show Qy u.Vals[i]=nmB u.Vals[i].Lo++nmB (u.Vals[i].Hi-u.Vals[i].Lo) from rfl,←List.append_assoc]
  ·rw [Aq (dF (by omega)),List.drop_eq_nil_of_le (by omega)];unfold F3;rw [ckb (by omega),List.flatMap_nil,List.append_nil]
theorem B6u {M:List mosaic_Message} (q:2000<=F) (r:P<=500) (d:∀m∈M,SmM P m) (s:M.length<=300) (hb:M.length*(70+20*P)<=900000) :
  ∀(n i:Nat) (l:List Int),i<=M.length->M.length-i<n->l.length<=1000+i*(70+20*P)->Cl F M n (i:Int) l=Dy F (l++(M.drop i).flatMap Mb):=by
 intro n
 induction n with
 | zero=>intro i l _ h;omega
 | succ n ih =>
  intro i l hi t f;rw [Cl];unfold F1;have g:i*(70+20*P)<=M.length*(70+20*P):=Nat.mul_le_mul_right _ hi
  by_cases c:i<M.length
  ·have b:=d _ (List.getElem_mem c);have j:=b.name;have k:=b.tilt;have o:=b.time;have hz:=b.len;have s1:=Qp M[i].Key.Name;have n1:=Kf ((M[i].Key.Name.size:Nat):Int);have n2:=Kf M[i].Key.Tilt;have n3:=Kf M[i].Key.Time;have n4:=A2t j;rw [Bx (dT (by omega)),Ej i _ rfl (List.getElem?_eq_getElem c),A4c (by omega) (by omega) (by omega) (by omega),sbd,Me (by simp;omega) (by decide),A4c (by omega) k.1 (by omega) (by simp;omega),sbd,A4c (by omega) o.1 (by omega) (by simp;omega),sbd];have:=B7i (F:=F) (x:=i) (k2:=Cl F M n) (by omega) b (by omega) (by omega) F 0 (l++nmB ((M[i].Key.Name.size:Nat):Int)++sby M[i].Key.Name++nmB M[i].Key.Tilt++nmB M[i].Key.Time) (Nat.zero_le _) (by omega) (by simp;omega);refine this.trans ?_;have e:l++nmB ((M[i].Key.Name.size:Nat):Int)++sby M[i].Key.Name++nmB M[i].Key.Tilt++nmB M[i].Key.Time++(M[i].Vals.drop 0).flatMap Qy=l++Mb M[i]:=by
    unfold Mb B0w;rw [List.drop_zero];simp only [List.append_assoc]
   rw [e,List.drop_eq_getElem_cons c,List.flatMap_cons,←List.append_assoc];have p:(i+1)*(70+20*P)=i*(70+20*P)+(70+20*P):=Nat.succ_mul _ _;exact ih (i+1) (l++Mb M[i]) c (by omega) (by rw [List.length_append,p];omega)
  ·rw [Aq (dF (by omega)),List.drop_eq_nil_of_le (by omega),List.flatMap_nil,List.append_nil]
theorem A01:∀{M:List mosaic_Message},(∀m∈M,SmM P m)->(M.flatMap Mb).length<=M.length*(70+20*P)
 | [],_=>by simp
 | m::M,h=>by
  have h1:=A2t (h m (.head _)).name;have c:=(h m (.head _)).len;have d:=A01 λx b=>h x (List.Mem.tail m b);rw [List.flatMap_cons,List.length_append,List.length_cons,Nat.succ_mul];omega
def G1 (N:mosaic_Node):List Int:=[82,68,77,49]++nmB N.horizon++nmB N.count++(Nv N).flatMap Mb
theorem SN.smM (d:SN F s N) (c:∀m,okM s m->m.Key.Name.size<=30):∀m∈Nv N,SmM (pix s) m:=by
 intro m e;have b:=d.okm (R5.1 e);exact ⟨b.len,b.vals,by have:=c m b;omega,b.key.2.1,b.key.2.2⟩
theorem A67 (N:mosaic_Node):Byt (G1 N):=by
 refine Byt.app (Byt.app (Byt.app (λx b=>?_) (Nw _ _)) (Nw _ _)) λx b=>?_
 ·simp only [List.mem_cons,List.not_mem_nil,or_false] at b;omega
 ·obtain ⟨m,_,b⟩:=List.mem_flatMap.1 b;exact A92 m x b
theorem Wd (d:SN F s N) (b:∀m,okM s m->m.Key.Name.size<=30):(G1 N).length<=24+tot N.kept*(70+20*pix s):=by
 have n1:=Kf N.horizon;have n2:=Kf N.count;have c:=A01 (d.smM b);rw [R6 d.ni] at c;unfold G1;simp only [List.length_append,List.length_cons,List.length_nil];omega
theorem B2u (hs:GS F s) (b:SN F s N) (c:∀m,okM s m->m.Key.Name.size<=30) (k:tot N.kept<=300) (l:tot N.kept*(70+20*pix s)<=900000) (n:2000+tot N.kept*(70+20*pix s)<=F) (d:0<=N.horizon/\N.horizon<=4294967296) :
  Bl F N=some (G1 N++chB (chF 1 (G1 N))):=by
 have e:=hs.small;have o:=b.ni.count;have f:=R6 b.ni;have g:=b.smM c;have n1:=Kf N.horizon;have n2:=Kf N.count;have i:=Wd b c;have j:(chB (chF 1 (G1 N))).length=4:=rfl;unfold Bl Bt;rw [sbd,cond_false,A4c (by omega) d.1 (by omega) (by simp),sbd,A4c (by omega) (by omega) (by omega) (by simp;omega),sbd,A7q (by omega) hs b.ni (by omega),sbd];have:=B6u (F:=F) (P:=pix s) (M:=Nv N) (by omega) e g (by omega) (by rw [f];omega) F 0 ([82,68,77,49]++nmB N.horizon++nmB N.count) (Nat.zero_le _) (by omega) (by simp;omega);rw [List.drop_zero] at this;refine this.trans ?_;unfold Dy;rw [show [82,68,77,49]++nmB N.horizon++nmB N.count++(Nv N).flatMap Mb=G1 N from rfl,B33 (A67 N) (by omega) (by omega),sbd,Me (by omega) (by decide)]
theorem B3u (i:2000<=F) (h:GS F s) (d:SN F s N) (j:tot N.kept<256) (f:okM s m) (k:N.horizon<=m.Key.Time) (g:¬has N m) :
  ∃q,Bj F N m=some (true,0,Sn N m q)/\SN F s (Sn N m q):=by
 have l:=d.ni.count;unfold Bj Bt;rw [sbd,cond_false,A3l (by omega) h d.ni f,sbd,Aq (c:=(0:Int) != 0) rfl,Aq (dF (by omega))];obtain ⟨q,b,e,r1,r2,r3⟩:=Wq (m:=m) (by omega) h d (by omega);rw [e,sbd]
 cases b with
 | true=>exact absurd (r2.1 rfl) g
 | false =>
  rw [Aq (c:=((q:Int),false).2) rfl,Aq (dF (by omega)),A4g (by omega) h d.ni f (by omega) e r1,sbd];exact ⟨q,rfl,r3 rfl f⟩
abbrev B2y:=Option (mosaic_Node×Int)
def PL4 (F:Nat) (s:mosaic_Spec) (p1:List Int) (y:Int×mosaic_reader) (n:Nat) (N:mosaic_Node) (l:List Int) (i:Int):B2y:=De F s p1 y n N.spec.Grid.X N.spec.Grid.Y N.horizon N.count N.spec.Grid.Size N.spec.Grid.Wide N.spec.Grid.High N.spec.Earth.Lo N.spec.Earth.Hi N.spec.Radars N.spec.Age l N.radars N.kept N.looks i
def PL7 (F:Nat) (s:mosaic_Spec) (p1:List Int) (y:Int×mosaic_reader) (m:Nat) (N:mosaic_Node) (x:Int) (y1:List Int×mosaic_reader) (y2 y3:Int×mosaic_reader) (P:Int) (n:Nat) (l:List Int) (acc:List api_Span) (i:Int):B2y:=Ed F N.spec.Grid.X N.spec.Grid.Y N.horizon N.count N.spec.Grid.Size N.spec.Grid.Wide N.spec.Grid.High N.spec.Earth.Lo N.spec.Earth.Hi N.spec.Radars N.spec.Age N.radars N.kept N.looks x (De F s p1 y m) y1 y2 y3 P n l acc i
def PK6 (F:Nat) (s:mosaic_Spec) (p1:List Int) (y:Int×mosaic_reader) (m:Nat) (N:mosaic_Node) (x:Int) (y1:List Int×mosaic_reader) (y2 y3:Int×mosaic_reader) (l:List Int) (acc:List api_Span):B2y:=H6 F N.spec.Grid.X N.spec.Grid.Y N.horizon N.count N.spec.Grid.Size N.spec.Grid.Wide N.spec.Grid.High N.spec.Earth.Lo N.spec.Earth.Hi N.spec.Radars N.spec.Age N.radars N.kept N.looks x (De F s p1 y m) y1 y2 y3 l acc
theorem B2w {m:Nat} (hi:i<=1000) (h:Bj F N ⟨⟨bst y1.1,y2.1,y3.1⟩,acc⟩=some (true,0,N')):PK6 F s p1 y m N (i:Int) y1 y2 y3 l acc=PL4 F s p1 y m N' l ((i+1:Nat):Int):=by
 unfold PK6 H6;rw [show (mosaic_Node.mk (mosaic_Spec.mk (api_Grid.mk N.spec.Grid.X N.spec.Grid.Y N.spec.Grid.Size N.spec.Grid.Wide N.spec.Grid.High) (api_Span.mk N.spec.Earth.Lo N.spec.Earth.Hi) N.spec.Radars N.spec.Age) N.radars N.horizon N.kept N.count N.looks)=N from rfl,h,sbd,Aq (c:=bif (!((true,(0:Int),N').1)) then true else (((true,(0:Int),N').2.1) != 0)) rfl];unfold Ke;rw [ckb (by omega)];rfl
theorem B1t {q:Nat} (h:SN F s N) (b:SN F s (Sn N m q)):tot (Sn N m q).kept=tot N.kept+1:=by
 have h1:=h.ni.count;have c:=b.ni.count;have d:(Sn N m q).count=N.count+1:=rfl;omega
theorem B0f {m:Nat} :PL7 F s p1 y m N x y1 y2 y3 (P:Int) (n+1) l acc (P:Int)=PK6 F s p1 y m N x y1 y2 y3 l acc:=by
 unfold PL7;rw [Ed];unfold H5;rw [Aq (dF (by omega))];rfl
theorem A7l {m:Nat} (hi:i<P):PL7 F s p1 y m N x y1 y2 y3 (P:Int) (n+1) l acc (i:Int)=(Al F (mosaic_reader.mk l)).bind λy4646 =>
  (Al F (mosaic_reader.mk y4646.2.left)).bind λy4662 =>
  (ck (y4646.1+y4662.1)).bind λx4676 =>
  (apd 16 acc ([(api_Span.mk y4646.1 x4676)])).bind λl4678 =>
  (ck ((i:Int)+1)).bind λx4681=>PL7 F s p1 y m N x y1 y2 y3 (P:Int) n y4662.2.left l4678 x4681:=by
 unfold PL7;rw [Ed];unfold H5;rw [Bx (dT (by omega))]
theorem B4u {r:List Int} {m:Nat} (g:2000<=F) (j:P<=1000) :
  ∀(vs:List api_Span) (n i:Nat) (acc:List api_Span),i+vs.length=P->vs.length<n->acc.length=i->(∀v∈vs,0<=v.Lo/\v.Lo<=v.Hi/\v.Hi<=1000000) ->
  PL7 F s p1 y m N x y1 y2 y3 (P:Int) n (vs.flatMap Qy++r) acc (i:Int)=PK6 F s p1 y m N x y1 y2 y3 r (acc++vs):=by
 intro vs
 induction vs with
 | nil =>
  intro n i acc hi c d b;obtain ⟨n,rfl⟩:∃m,n=m+1:=⟨n-1,by omega⟩;obtain rfl:i=P:=by simpa using hi
  rw [List.flatMap_nil,List.nil_append,List.append_nil,B0f]
 | cons v vs ih =>
  intro n i acc hi c d b;obtain ⟨n,rfl⟩:∃m,n=m+1:=⟨n-1,by omega⟩;rw [List.length_cons] at hi c;obtain ⟨v1,v2,v3⟩:=b v (.head _);have e:(v::vs).flatMap Qy++r=nmB v.Lo++(nmB (v.Hi-v.Lo)++(vs.flatMap Qy++r)):=by
   rw [List.flatMap_cons];unfold Qy;simp only [List.append_assoc]
  rw [A7l (by omega),e,Z0 (by omega) v1 (by omega),sbd];rw [show (⟨(v.Lo,(⟨nmB (v.Hi-v.Lo)++(vs.flatMap Qy++r)⟩:mosaic_reader)).2.left⟩:mosaic_reader)=⟨nmB (v.Hi-v.Lo)++(vs.flatMap Qy++r)⟩ from rfl,Z0 (by omega) (by omega) (by omega),sbd,ckb (by show _<=v.Lo+(v.Hi-v.Lo)/\v.Lo+(v.Hi-v.Lo)<=_;omega),Me (by simp;omega) (by decide),ckb (by omega)];have ev:(⟨v.Lo,v.Lo+(v.Hi-v.Lo)⟩:api_Span)=v:=by
   rw [show v.Lo+(v.Hi-v.Lo)=v.Hi by omega]
  have:=ih n (i+1) (acc++[v]) (by omega) (by omega) (by simp;omega) (λq f=>b q (.tail _ f));rw [List.append_assoc,List.singleton_append] at this;refine Eq.trans ?_ this;show PL7 F s p1 y m N x y1 y2 y3 (P:Int) n _ (acc++[⟨v.Lo,v.Lo+(v.Hi-v.Lo)⟩]) _=_;rw [ev];rfl
theorem A7k (h:GS F s) (b:(i:Int)<y.1):PL4 F s p1 y (n+1) N l (i:Int)=(Al F (mosaic_reader.mk l)).bind λy4328 =>
  (Bq F (mosaic_reader.mk y4328.2.left) y4328.1).bind λy4343 =>
  (Al F (mosaic_reader.mk y4343.2.left)).bind λy4362 =>
  (Al F (mosaic_reader.mk y4362.2.left)).bind λy4377 =>
  PL7 F s p1 y n N (i:Int) y4343 y4362 y4377 ((pix s:Nat):Int) F y4377.2.left [] ((0:Nat):Int):=by
 have c:=B46 h;have:=h.small;unfold PL4;rw [De];unfold H4;rw [Bx (dT b),c.1,ckS (x:=((pix s:Nat):Int)) (by omega)];rfl
theorem B0e (b:¬(i:Int)<y.1):PL4 F s p1 y (n+1) N l (i:Int)=(Bl F N).bind λy2399=>(Dn F y2399 p1).bind λy2406=>bif (!y2406) then (none) else (some (N,0)):=by
 unfold PL4;rw [De];unfold H4;rw [Aq (dF b)];rfl
theorem B4i {r:List Int} (hF:2000<=F) (h:GS F s) (k:∀m,okM s m->m.Key.Name.size<=30) (hc:y.1<=200) :
  ∀(M:List mosaic_Message) (n i:Nat) (N:mosaic_Node),SN F s N->tot N.kept=i->((i+M.length:Nat):Int)=y.1->M.Nodup->(∀m∈M,okM s m/\¬has N m/\N.horizon<=m.Key.Time) ->
  ∃N',PL4 F s p1 y (n+1+M.length) N (M.flatMap Mb++r) (i:Int)=PL4 F s p1 y (n+1) N' r ((i+M.length:Nat):Int)/\SN F s N'/\tot N'.kept=i+M.length/\N'.horizon=N.horizon/\∀x,has N' x↔has N x\/x∈M:=by
 have p:=h.small;intro M
 induction M with
 | nil =>
  intro n i N f o hi c d;exact ⟨N,rfl,f,o,rfl,λx=>⟨.inl,λe=>e.elim id λe=>by cases e⟩⟩
 | cons m M ih =>
  intro n i N f o hi c d;rw [List.length_cons] at hi;obtain ⟨m1,m2,m3⟩:=d m (.head _);have b:=List.nodup_cons.1 c;have g:=m1.key;have t:=g.2.1;have u:=g.2.2;have v:=k m m1;have hs:=Qp m.Key.Name;obtain ⟨q,o1,o2⟩:=B3u (by omega) h f (by omega) m1 m3 m2;have tk:∀R:List Int,Bq F ⟨sby m.Key.Name++R⟩ ((m.Key.Name.size:Nat):Int)=some (sby m.Key.Name,⟨R⟩):=by
   intro R;rw [←hs];exact A9l
  have e:(m::M).flatMap Mb++r=nmB ((m.Key.Name.size:Nat):Int)++(sby m.Key.Name++(nmB m.Key.Tilt++(nmB m.Key.Time++(m.Vals.flatMap Qy++(M.flatMap Mb++r))))):=by
   rw [List.flatMap_cons];unfold Mb B0w;simp only [List.append_assoc]
  have l:PL4 F s p1 y (n+1+(m::M).length) N ((m::M).flatMap Mb++r) (i:Int)=PL4 F s p1 y (n+1+M.length) (Sn N m q) (M.flatMap Mb++r) ((i+1:Nat):Int):=by
   rw [List.length_cons,show n+1+(M.length+1)=(n+1+M.length)+1 by omega,A7k h (by omega),e,Z0 (by omega) (by omega) (by omega),sbd];rw [show Bq F (⟨(((m.Key.Name.size:Nat):Int),(⟨sby m.Key.Name++(nmB m.Key.Tilt++(nmB m.Key.Time++(m.Vals.flatMap Qy++(M.flatMap Mb++r))))⟩:mosaic_reader)).2.left⟩:mosaic_reader) (((m.Key.Name.size:Nat):Int),(⟨sby m.Key.Name++(nmB m.Key.Tilt++(nmB m.Key.Time++(m.Vals.flatMap Qy++(M.flatMap Mb++r))))⟩:mosaic_reader)).1=_ from tk _,sbd];rw [show Al F (⟨(sby m.Key.Name,(⟨nmB m.Key.Tilt++(nmB m.Key.Time++(m.Vals.flatMap Qy++(M.flatMap Mb++r)))⟩:mosaic_reader)).2.left⟩:mosaic_reader)=_ from Z0 (by omega) g.2.1.1 (by omega),sbd];rw [show Al F (⟨(m.Key.Tilt,(⟨nmB m.Key.Time++(m.Vals.flatMap Qy++(M.flatMap Mb++r))⟩:mosaic_reader)).2.left⟩:mosaic_reader)=_ from Z0 (by omega) g.2.2.1 (by omega),sbd];rw [show (m.Key.Time,(⟨m.Vals.flatMap Qy++(M.flatMap Mb++r)⟩:mosaic_reader)).2.left=m.Vals.flatMap Qy++(M.flatMap Mb++r) from rfl];rw [B4u (by omega) (by omega) m.Vals F 0 [] (by rw [m1.len];omega) (by rw [m1.len];omega) rfl m1.vals,List.nil_append];refine B2w (i:=i) (by omega) ?_;show Bj F N ⟨⟨bst (sby m.Key.Name),m.Key.Tilt,m.Key.Time⟩,m.Vals⟩=_;rw [A55];exact o1
  have z:=B1t f o2;obtain ⟨N',q1,q2,q3,q4,q5⟩:=ih n (i+1) (Sn N m q) o2 (by omega) (by omega) b.2 (λx j=>⟨(d x (.tail _ j)).1,λe=>by
   rcases Xs.1 e with e|e
   ·exact b.1 (e▸j)
   ·exact (d x (.tail _ j)).2.1 e,(d x (.tail _ j)).2.2⟩)
  refine ⟨N',?_,q2,by rw [List.length_cons];omega,q4,λx=>?_⟩
  ·rw [l,q1,List.length_cons,show i+1+M.length=i+(M.length+1) by omega]
  ·rw [q5,Xs,List.mem_cons];constructor
   ·rintro ((e|e)|e)
    ·exact .inr (.inl e)
    ·exact .inl e
    ·exact .inr (.inr e)
   ·rintro (e|e|e)
    ·exact .inl (.inr e)
    ·exact .inl (.inl e)
    ·exact .inr e
def hzN (s:mosaic_Spec) (h:Int):mosaic_Node:=⟨s,radM s,h,[],0,[]⟩
theorem B3b {h:Int}:SN F s (hzN s h):=by
 refine ⟨⟨rfl,rfl,.nil,?_,rfl,?_⟩,λk=>.nil,λk v b=>by cases b⟩
 ·intro p c;cases c
 ·intro w l h;cases h
theorem A5h (f:∀k,Srt (kl B k)):∀{L:List mosaic_Key},L.Nodup->(L.flatMap λk=>(kl B k).map (mosaic_Message.mk k)).Nodup
 | [],_=>.nil
 | k::L,h=>by
  have h':=List.nodup_cons.1 h;rw [List.flatMap_cons];refine List.nodup_append.2 ⟨?_,A5h f h'.2,λx g y c e=>?_⟩
  ·refine List.pairwise_map.2 ((f k).imp λ{a b} h e=>?_);injection e with _ e;rw [e,Tg] at h;omega
  ·obtain ⟨v,_,rfl⟩:=List.mem_map.1 g;obtain ⟨k',d,c⟩:=List.mem_flatMap.1 c;obtain ⟨v',_,rfl⟩:=List.mem_map.1 c;injection e with e _;exact h'.1 (e▸d)
theorem B17 (h:SN F s N):(Nv N).Nodup:=A5h h.so (A8u h.ni)
theorem Same.body (h:Same F s N N'):G1 N=G1 N':=by
 unfold G1;rw [h.hz,h.cnt,h.ms]
theorem B5j:sEq (bst [82,68,77,49]) (⟨#[82,68,77,49]⟩:ByteArray)=true:=by decide
theorem B1g {A:mosaic_Node} (v:300000<=F) (h:RG F s) (d:∀m,okM s m->m.Key.Name.size<=30) (q:pix s<=36) (g:SN F s A) (ht:tot A.kept<=100) (l:0<=A.horizon/\A.horizon<=4294967296) (j:∀m,has A m->A.horizon<=m.Key.Time) :
  ∃C,Hw F s (G1 A++chB (chF 1 (G1 A)))=some (C,0)/\Same F s A C:=by
 have hs:=h.gs;have hc:=g.ni.count;have k:=R6 g.ni;generalize f:G1 A++chB (chF 1 (G1 A))=p1;have e1:p1=[82,68,77,49]++(nmB A.horizon++(nmB A.count++((Nv A).flatMap Mb++chB (chF 1 (G1 A))))):=by
  rw [←f];have:G1 A=[82,68,77,49]++nmB A.horizon++nmB A.count++(Nv A).flatMap Mb:=rfl;generalize chB (chF 1 (G1 A))=z;rw [this];simp only [List.append_assoc]
 obtain ⟨n,t⟩:∃n,F=n+1+(Nv A).length:=⟨F-1-(Nv A).length,by omega⟩;generalize o:(⟨(Nv A).flatMap Mb++chB (chF 1 (G1 A))⟩:mosaic_reader)=rd at *;obtain ⟨C,q1,q2,q3,q4,q5⟩:=B4i (F:=F) (p1:=p1) (r:=chB (chF 1 (G1 A))) (y:=(A.count,rd)) (by omega) hs d (by show A.count<=200;omega) (Nv A) n 0 (hzN s A.horizon) B3b rfl (by show _=A.count;omega) (B17 g) (λm k=>⟨g.okm (R5.1 k),λe=>(by cases e),j m (R5.1 k)⟩)
 have b:Same F s A C:=⟨g,q2,q4.symm,λx=>by rw [q5,R5];exact ⟨.inr,λe=>e.elim (λe=>(by cases e)) id⟩⟩
 refine ⟨C,?_,b⟩;have hb:=b.body;have hP:tot C.kept*(70+20*pix s)<=100*790:=Nat.mul_le_mul (by omega) (by omega);have i:=B2u (F:=F) hs q2 d (by omega) (by omega) (by omega) (by rw [q4];exact l);rw [←hb,f] at i;have hl:=Wd g d;have u:tot A.kept*(70+20*pix s)<=100*790:=Nat.mul_le_mul (by omega) (by omega);have p:p1.length=(G1 A).length+4:=by rw [←f,List.length_append];rfl
 have key:PL4 F s p1 (A.count,rd) F (hzN s A.horizon) ((Nv A).flatMap Mb++chB (chF 1 (G1 A))) ((0:Nat):Int)=some (C,0):=by
  have q1':PL4 F s p1 (A.count,rd) F (hzN s A.horizon) ((Nv A).flatMap Mb++chB (chF 1 (G1 A))) ((0:Nat):Int)=PL4 F s p1 (A.count,rd) (n+1) C (chB (chF 1 (G1 A))) ((0+(Nv A).length:Nat):Int):=by
   have:=q1;rw [←t] at this;exact this
  rw [q1',B0e (by show ¬_<A.count;omega),i,sbd,A7g (by omega) (by omega),sbd,dT rfl,Aq (c:=!true) rfl]
 unfold Hw;rw [A7j (by omega) h,sbd,Aq (c:=((Um s,(0:Int)).2) != 0) rfl];have t1:Bq F ⟨p1⟩ 4=some ([82,68,77,49],⟨nmB A.horizon++(nmB A.count++((Nv A).flatMap Mb++chB (chF 1 (G1 A))))⟩):=by
  rw [e1];exact A9l
 rw [t1,sbd,B5j,Aq (c:=!true) rfl];unfold Kc;rw [show Al F (⟨(([82,68,77,49]:List Int),(⟨nmB A.horizon++(nmB A.count++((Nv A).flatMap Mb++chB (chF 1 (G1 A))))⟩:mosaic_reader)).2.left⟩:mosaic_reader)=_ from Z0 (by omega) l.1 (by omega),sbd];rw [show Al F (⟨(A.horizon,(⟨nmB A.count++((Nv A).flatMap Mb++chB (chF 1 (G1 A)))⟩:mosaic_reader)).2.left⟩:mosaic_reader)=_ from Z0 (by omega) (by omega) (by omega),sbd];rw [Aq (by
  show (bif decide (A.horizon>4294967296) then true else decide (A.count>256))=false;rw [dF (by omega),dF (by omega)];rfl)]
 rw [o];unfold Kd;subst o;exact key
end Go.Proofs.YtjfhcbjhjeklbaaGreat
