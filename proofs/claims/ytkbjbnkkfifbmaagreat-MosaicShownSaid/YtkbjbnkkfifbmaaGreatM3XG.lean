import Derived.Test.YtkbjbnkkfifbmaaGreatM3WkD
set_option linter.unusedVariables false
set_option linter.unusedSimpArgs false
set_option linter.unusedSectionVars false
namespace Go.Proofs.YtkbjbnkkfifbmaaGreat
open Go Go.RowKit Go.Eng
set_option maxRecDepth 10000
set_option linter.unusedVariables false
set_option linter.unusedSimpArgs false
theorem ckb {β:Type} {x:Int} {f:Int→Option β} (h:-9000000000000000000≤x∧x≤9000000000000000000):(ck x).bind f=f x:=by
 unfold ck;rw [if_pos (by omega)];rfl
theorem gdT {α:Type} {g:Bool} {o:Option α} {d:α} (h:g=true):gd g o d=o:=by subst h;rfl
theorem gdF {α:Type} {g:Bool} {o:Option α} {d:α} (h:g=false):gd g o d=some d:=by subst h;rfl
theorem Cb {α:Type} {c:Bool} {x y:α} (h:c=true):(bif c then x else y)=x:=by rw [h];rfl
theorem Bc {α:Type} {c:Bool} {x y:α} (h:c=false):(bif c then x else y)=y:=by rw [h];rfl
theorem sbd {α β:Type} {x:α} {f:α→Option β}:(some x).bind f=f x:=rfl
theorem dT {p:Prop} [Decidable p] (h:p):decide p=true:=decide_eq_true h
theorem dF {p:Prop} [Decidable p] (h:¬p):decide p=false:=decide_eq_false h
theorem Dg {α β:Type} {l:List α} {i:Int} {f:α→Option β} (n:Nat) (x:α) (hi:i=(n:Int)) (h:l[n]? = some x):(Be l i).bind f=f x:=by
 subst hi;unfold Be;rw [if_pos (by omega),show ((n:Int)).toNat=n by omega,h];rfl
theorem Mb {α β:Type} {l k:List α} {B:Nat} {f:List α→Option β} (h:(l.length+k.length)*B≤140737488355328) (hB:1≤B):(apd B l k).bind f=f (l++k):=by
 unfold apd;have:l.length+k.length≤(l.length+k.length)*B:=Nat.le_mul_of_pos_right _ hB;rw [if_pos ⟨h,by omega⟩];rfl
theorem A0s {x:Int} (h:-9000000000000000000≤x∧x≤9000000000000000000):IntKind.i64.wrap x=x:=by rw [IntKind.wrap_i64];omega
theorem Qz {x y A B:Int} (hx:-A≤x∧x≤A) (hy:-B≤y∧y≤B):-(A*B)≤x*y∧x*y≤A*B:=by
 have h1:(x*y).natAbs≤A.natAbs*B.natAbs:=by rw [Int.natAbs_mul];exact Nat.mul_le_mul (by omega) (by omega)
 have h2:0≤A*B:=Int.mul_nonneg (by omega) (by omega);have h3:(A*B).natAbs=A.natAbs*B.natAbs:=Int.natAbs_mul A B;omega
theorem J5 {x y A B:Int} (hx:0≤x∧x≤A) (hy:0≤y∧y≤B):0≤x*y∧x*y≤A*B :=
 ⟨Int.mul_nonneg hx.1 hy.1,(Qz (A:=A) (B:=B) ⟨by omega,hx.2⟩ ⟨by omega,hy.2⟩).2⟩
theorem Wm {β:Type} {x y:Int} {f:Int→Option β} (hx:0≤x) (hx2:x≤9000000000000000000) (hy:0<y):(Kw x y).bind f=f (x/y):=by
 unfold Kw;rw [if_neg (by omega),Int.tdiv_eq_ediv_of_nonneg hx,ckb];have h1:0≤x/y:=Int.ediv_nonneg hx (by omega);have h2:x/y≤x:=Int.ediv_le_self _ hx;omega
structure VS (s:api_Site):Prop where
 x:-1048576≤s.X∧s.X≤1048576
 y:-1048576≤s.Y∧s.Y≤1048576
 z:0≤s.Z∧s.Z≤20000
 rose:1≤s.Rose∧s.Rose≤90
 gates:1≤s.Gates∧s.Gates≤200
 step:50≤s.Step∧s.Step≤2000
 width:0≤s.Width∧s.Width≤8
structure VG (g:api_Grid):Prop where
 x:-1048576≤g.X∧g.X≤1048576
 y:-1048576≤g.Y∧g.Y≤1048576
 size:1≤g.Size∧g.Size≤10000
 wide:1≤g.Wide∧g.Wide≤64
 high:1≤g.High∧g.High≤64
theorem D8 {n a b:Int} (h:a≤n∧n≤b):A7 n a b=true:=by unfold A7;rw [dT h.1,dT h.2];rfl
theorem M7 {g:api_Grid} (h:VG g):B2 g=0:=by
 unfold B2 Bw;rw [D8 h.x,D8 h.y,D8 h.size,D8 h.wide,D8 h.high];rfl
theorem Qc {F:Nat} {s:api_Site} (h:VS s) (hn:Jm F s.Name=some true):beam_CheckSite F s=some 0:=by
 unfold beam_CheckSite;rw [hn,sbd,D8 h.x,D8 h.y,D8 h.z];simp only [Bool.not_true,cond_false];unfold Cw Ca;rw [D8 h.rose,D8 h.gates,D8 h.step,D8 h.width];rfl
def slt (t:Int):beam_slant:=⟨262144-t*t,1024*t,262144+t*t⟩
theorem sqB {t:Int} (h:-264≤t∧t≤264):0≤t*t∧t*t≤69696:=by
 have h1:=Qz (A:=264) (B:=264) h h;have h2:0≤t*t:=by
  rcases Int.le_total 0 t with h|h
  ·exact Int.mul_nonneg h h
  ·exact Int.mul_nonneg_of_nonpos_of_nonpos h h
 exact ⟨h2,by omega⟩
theorem J1 {F:Nat} {t:Int} (h:-264≤t∧t≤264):Cz F t=some (slt t):=by
 have h1:=sqB h;unfold Cz;rw [ckb (by omega),ckb (by omega),ckb (by omega),ckb (by omega),ckb (by omega)];rfl
theorem Ps {F:Nat} {s:api_Site} {t j:Int} (hs:VS s) (ht:0≤t∧t≤256) (hj:0≤j∧j≤200):∃b,F7 F j s (slt t)=some b∧0≤b∧b≤400000:=by
 have h1:=sqB (t:=t) (by omega);have h2:=hs.step;have h3:=J5 (x:=j) (y:=s.Step) (A:=200) (B:=2000) hj (by omega);have h4:=J5 (x:=j*s.Step) (y:=262144-t*t) (A:=400000) (B:=262144) (by omega) (by omega);refine ⟨(j*s.Step*(262144-t*t))/(262144+t*t),?_,Int.ediv_nonneg (by omega) (by omega),?_⟩
 ·unfold F7 slt;dsimp only;rw [ckb (by omega),ckb (by omega),Wm (by omega) (by omega) (by omega)]
 ·refine Int.ediv_le_of_le_mul (by omega) ?_;have h5:j*s.Step*(262144-t*t)≤400000*(262144-t*t):=Int.mul_le_mul_of_nonneg_right (by omega) (by omega);omega
theorem Zz {F:Nat} {s:api_Site} {t w:Int} (hs:VS s) (ht:0≤t∧t≤256):∀(n:Nat) (lo hi:Int),0≤lo→lo<hi→hi≤s.Gates→hi-lo≤n→∃j,Fk F s w (slt t) n lo hi=some j∧0≤j∧j<s.Gates:=by
 intro n;have hg:=hs.gates
 induction n with
 | zero=>intro lo hi _ _ _ h;omega
 | succ n ih =>
  intro lo hi h0 h1 h2 h3;unfold Fk Hm;rw [ckb (by omega)]
  by_cases hc:hi-lo>1
  ·rw [Cb (dT hc),ckb (by omega),Wm (by omega) (by omega) (by omega)];obtain ⟨b,hb,b0,b1⟩:=Ps (F:=F) (t:=t) (j:=(lo+hi)/2) hs ht (by omega);have hbb:=J5 (x:=b) (y:=b) ⟨b0,b1⟩ ⟨b0,b1⟩;rw [hb,sbd,sbd,ckb (by omega)]
   by_cases hw:b*b≤w
   ·rw [Cb (dT hw)];exact ih _ _ (by omega) (by omega) h2 (by omega)
   ·rw [Bc (dF hw)];exact ih _ _ h0 (by omega) (by omega) (by omega)
  ·rw [Bc (dF hc)];exact ⟨lo,rfl,h0,by omega⟩
theorem Xd {F:Nat} {s:api_Site} {t w:Int} (hF:200≤F) (hs:VS s) (ht:0≤t∧t≤256):∃j,Jo F s t w=some j∧j<s.Gates∧-1≤j:=by
 have hg:=hs.gates;obtain ⟨b,hb,b0,b1⟩:=Ps (F:=F) (t:=t) (j:=s.Gates) hs ht (by omega);have hbb:=J5 (x:=b) (y:=b) ⟨b0,b1⟩ ⟨b0,b1⟩;unfold Jo;rw [J1 (by omega),sbd,hb,sbd,ckb (by omega)]
 by_cases hw:w≥b*b
 ·rw [Cb (dT hw)];exact ⟨-1,rfl,by omega,by omega⟩
 ·rw [Bc (dF hw)];obtain ⟨j,hj,j0,j1⟩:=Zz (F:=F) (w:=w) hs ht F 0 s.Gates (by omega) (by omega) (by omega) (by omega);exact ⟨j,hj,j1,by omega⟩
theorem Qn {F:Nat} {r a:Int} (hr:1≤r∧r≤90) (ha:0≤a∧a<r):F6 F r a=some ⟨2*r*a,r*r-a*a,r*r+a*a⟩:=by
 have h1:=J5 (x:=r) (y:=r) (A:=90) (B:=90) (by omega) (by omega);have h2:=J5 (x:=a) (y:=a) (A:=90) (B:=90) (by omega) (by omega);have h3:=J5 (x:=2*r) (y:=a) (A:=180) (B:=90) (by omega) (by omega);have e1:Dh a r=some a:=by unfold Dh;rw [if_neg (by omega),Int.tmod_eq_of_lt ha.1 ha.2]
 have e2:Kw a r=some 0:=by unfold Kw;rw [if_neg (by omega),Int.tdiv_eq_zero_of_lt ha.1 ha.2];rfl
 unfold F6;rw [e1,sbd,ckb (by omega),ckb (by omega),ckb (by omega),ckb (by omega),ckb (by omega),ckb (by omega),ckb (by omega),ckb (by omega),e2,sbd];rfl
theorem A0d {F:Nat} {r x y q:Int} (hr:1≤r∧r≤90) (hx:-10000000≤x∧x≤10000000) (hy:-10000000≤y∧y≤10000000) (hq:0≤q∧q≤4):∀(n:Nat) (lo hi:Int),0≤lo→lo<hi→hi≤r→hi-lo≤n→∃j,G6 F r x y q n lo hi=some j∧0≤j∧j≤450:=by
 intro n
 induction n with
 | zero=>intro lo hi _ _ _ h;omega
 | succ n ih =>
  intro lo hi h0 h1 h2 h3;unfold G6 J7;rw [ckb (by omega)]
  by_cases hc:hi-lo>1
  ·rw [Cb (dT hc),ckb (by omega),Wm (by omega) (by omega) (by omega),Qn hr (by omega),sbd];obtain ⟨m,hm⟩:∃m,m=(lo+hi)/2:=⟨_,rfl⟩;rw [←hm];have k1:=J5 (x:=r) (y:=r) (A:=90) (B:=90) (by omega) (by omega);have k2:=J5 (x:=m) (y:=m) (A:=90) (B:=90) (by omega) (by omega);have k3:=J5 (x:=2*r) (y:=m) (A:=180) (B:=90) (by omega) (by omega);have k4:=Qz (x:=r*r-m*m) (y:=x) (A:=16200) (B:=10000000) (by omega) hx;have k5:=Qz (x:=2*r*m) (y:=y) (A:=16200) (B:=10000000) (by omega) hy;unfold F5;dsimp only;rw [ckb (by omega),ckb (by omega),sbd]
   cases decide ((r*r-m*m)*x≥2*r*m*y) with
   | true=>exact ih _ _ (by omega) (by omega) h2 (by omega)
   | false=>exact ih _ _ h0 (by omega) (by omega) (by omega)
  ·rw [Bc (dF hc)];have k1:=J5 (x:=q) (y:=r) (A:=4) (B:=90) hq (by omega);unfold J9;rw [ckb (by omega),ckb (by omega)];exact ⟨_,rfl,by omega,by omega⟩
theorem Zh {F:Nat} {r x y:Int} (hF:100≤F) (hr:1≤r∧r≤90) (hx:-10000000≤x∧x≤10000000) (hy:-10000000≤y∧y≤10000000) (h0:¬(x=0∧y=0)):∃j,Kk F r x y=some j∧0≤j∧j≤450:=by
 have step:∀(n:Nat) (x y q:Int),-10000000≤x∧x≤10000000→-10000000≤y∧y≤10000000→0≤q∧q≤4 →
   ((x<0∨y≤0)∧Dl F r (n+1) x y q=Dl F r n (-y) x (q+1))∨(¬(x<0∨y≤0)∧∃j,Dl F r (n+1) x y q=some j∧0≤j∧j≤450):=by
  intro n x y q hx hy hq
  by_cases hc:x<0∨y≤0
  ·refine .inl ⟨hc,?_⟩;rw [Dl];unfold H7;have e:(bif (decide (x<0)) then true else (decide (y≤0)))=true:=by
    rcases hc with h|h
    ·rw [dT h];rfl
    ·rw [dT h];cases decide (x<0)<;>rfl
   rw [e,cond_true,ckb (by omega),A0s (by omega),show 0-y=-y by omega]
  ·refine .inr ⟨hc,?_⟩;rw [Dl];unfold H7 J8;have e:(bif (decide (x<0)) then true else (decide (y≤0)))=false:=by rw [dF (by omega),dF (by omega)];rfl
   rw [e,cond_false];exact A0d hr hx hy hq F 0 r (by omega) (by omega) (by omega) (by omega)
 obtain ⟨n,rfl⟩:∃n,F=n+4:=⟨F-4,by omega⟩;unfold Kk;rcases step (n+3) x y 0 hx hy (by omega) with ⟨c1,e1⟩|⟨_,h⟩
 ·rw [e1];rcases step (n+2) (-y) x (0+1) (by omega) hx (by omega) with ⟨c2,e2⟩|⟨_,h⟩
  ·rw [e2];rcases step (n+1) (-x) (-y) (0+1+1) (by omega) (by omega) (by omega) with ⟨c3,e3⟩|⟨_,h⟩
   ·rw [e3];rcases step n (- -y) (-x) (0+1+1+1) (by omega) (by omega) (by omega) with ⟨c4,e4⟩|⟨_,h⟩
    ·omega
    ·exact h
   ·exact h
  ·exact h
 ·exact h
theorem Xa {F:Nat} {s:api_Site} {t x y:Int} (hF:200≤F) (hs:VS s) (ht:0≤t∧t≤256) (hx:-3000000≤x∧x≤3000000) (hy:-3000000≤y∧y≤3000000) :
  ∃a j b,Jn F s t x y=some (a,j,b)∧(0≤a∧a≤450)∧(0≤j∧j<s.Gates):=by
 have h1:=hs.x;have h2:=hs.y;have hg:=hs.gates;unfold Jn;rw [ckb (by omega),ckb (by omega)]
 by_cases hc:x-s.X=0∧y-s.Y=0
 ·rw [hc.1,hc.2];exact ⟨0,0,true,rfl,by omega,by omega⟩
 ·have e:(bif (x-s.X==0) then (y-s.Y==0) else false)=false:=by
   cases h:(x-s.X==0) with
   | false=>rfl
   | true =>
    cases h':(y-s.Y==0) with
    | false=>rfl
    | true=>exact absurd ⟨by simpa using h,by simpa using h'⟩ hc
  have k1:=Qz (x:=x-s.X) (y:=x-s.X) (A:=5000000) (B:=5000000) (by omega) (by omega);have k2:=Qz (x:=y-s.Y) (y:=y-s.Y) (A:=5000000) (B:=5000000) (by omega) (by omega);rw [Bc e,ckb (by omega),ckb (by omega),ckb (by omega)];obtain ⟨j,hj,j1,j0⟩:=Xd (F:=F) (t:=t) (w:=(x-s.X)*(x-s.X)+(y-s.Y)*(y-s.Y)) hF hs ht;rw [hj,sbd]
  by_cases hn:j<0
  ·rw [Cb (dT hn)];exact ⟨0,0,false,rfl,by omega,by omega⟩
  ·rw [Bc (dF hn)];obtain ⟨a,ha,a0,a1⟩:=Zh (F:=F) (r:=s.Rose) (x:=x-s.X) (y:=y-s.Y) (by omega) hs.rose (by omega) (by omega) hc;rw [ha,sbd];exact ⟨a,j,true,rfl,by omega,by omega⟩
theorem Y9 {F:Nat} {s:api_Site} {t:Int} {g:api_Grid} {row:Int} (hF:200≤F) (hs:VS s) (hg:VG g) (ht:0≤t∧t≤256) (hr:0≤row∧row<64) (k2:List Int→Int→Option (List Int×Int)) :
  ∀(n:Nat) (m:Nat) (l:List Int) (c:Int),0≤c→c+m=g.Wide→m<n→l.length+m≤10000→∃l',Eg F s t g row k2 n l c=k2 l' (row+1)∧l'.length=l.length+m:=by
 have hw:=hg.wide;have hz:=hg.size;have hX:=hg.x;have hY:=hg.y;intro n
 induction n with
 | zero=>intro m l c _ _ h;omega
 | succ n ih =>
  intro m l c h0 h1 h2 h3;rw [Eg];unfold Hk
  by_cases hc:c<g.Wide
  ·have k1:=J5 (x:=c) (y:=g.Size) (A:=64) (B:=10000) (by omega) (by omega);have k2':=J5 (x:=row) (y:=g.Size) (A:=64) (B:=10000) (by omega) (by omega);rw [Cb (dT hc),ckb (by omega),ckb (by omega),Wm (by omega) (by omega) (by omega),ckb (by omega),ckb (by omega),ckb (by omega),Wm (by omega) (by omega) (by omega),ckb (by omega)];obtain ⟨a,j,b,hf,ha,hj⟩:=Xa (F:=F) (t:=t) (x:=g.X+c*g.Size+g.Size/2) (y:=g.Y+row*g.Size+g.Size/2) hF hs ht (by omega) (by omega);rw [hf,sbd];have hgt:=hs.gates;have k3:=J5 (x:=a) (y:=s.Gates) (A:=450) (B:=200) ha (by omega);have fin:∀v:Int,∃l',Fj l c (Eg F s t g row k2 n) v=k2 l' (row+1)∧l'.length=l.length+m:=by
    intro v;unfold Fj;rw [Mb (by simp;omega) (by decide),ckb (by omega)];obtain ⟨l',e,h⟩:=ih (m-1) (l++[v]) (c+1) (by omega) (by omega) (by omega) (by simp;omega);exact ⟨l',e,by rw [h];simp;omega⟩
   cases b with
   | true =>
    simp only [cond_true];rw [ckb (by omega),ckb (by omega)];exact fin _
   | false=>exact fin _
  ·rw [Bc (dF hc)];unfold Hl;rw [ckb (by omega)];exact ⟨l,rfl,by omega⟩
theorem Y8 {F:Nat} {s:api_Site} {t:Int} {g:api_Grid} (hF:200≤F) (hs:VS s) (hg:VG g) (ht:0≤t∧t≤256) :
  ∀(n:Nat) (m:Nat) (l:List Int) (r:Int),0≤r→r+m=g.High→m<n→l.length+m*g.Wide.toNat≤5000→∃l',Ef F s t g n l r=some (l',0)∧l'.length=l.length+m*g.Wide.toNat:=by
 have hw:=hg.wide;have hh:=hg.high;intro n
 induction n with
 | zero=>intro m l c _ _ h;omega
 | succ n ih =>
  intro m l r h0 h1 h2 h3;rw [Ef];unfold Hj
  by_cases hc:r<g.High
  ·rw [Cb (dT hc)];obtain ⟨l',e,hl⟩:=Y9 (F:=F) (s:=s) (t:=t) (g:=g) (row:=r) hF hs hg ht (by omega) (Ef F s t g n) F g.Wide.toNat l 0 (by omega) (by omega) (by omega) (by omega);rw [e];obtain ⟨k,rfl⟩:∃k,m=k+1:=⟨m-1,by omega⟩;rw [Nat.add_mul] at h3 ⊢;obtain ⟨l2,e2,hl2⟩:=ih k l' (r+1) (by omega) (by omega) (by omega) (by omega);exact ⟨l2,e2,by omega⟩
  ·rw [Bc (dF hc)];have:m=0:=by omega
   subst this;exact ⟨l,rfl,by simp⟩
theorem X0 {F:Nat} {s:api_Site} {t:Int} {g:api_Grid} (hF:200≤F) (hn:beam_CheckSite F s=some 0) (hs:VS s) (hg:VG g) (ht:0≤t∧t≤256) :
  ∃l,Fi F s t g=some (l,0)∧l.length=(g.Wide*g.High).toNat:=by
 have hw:=hg.wide;have hh:=hg.high;have k1:=J5 (x:=g.Wide) (y:=g.High) (A:=64) (B:=64) (by omega) (by omega);have k2:((g.High.toNat*g.Wide.toNat:Nat):Int)=g.Wide*g.High:=by
  rw [Int.natCast_mul,Int.toNat_of_nonneg (by omega),Int.toNat_of_nonneg (by omega),Int.mul_comm]
 unfold Fi;rw [hn,sbd,M7 hg,D8 ht];simp only [bne_self_eq_false,cond_false,Bool.not_true];rw [ckb (by omega),show mk0 8 (g.Wide*g.High)=some (g.Wide*g.High).toNat from by unfold mk0;rw [if_pos (by omega)],sbd];obtain ⟨l,e,hl⟩:=Y8 (F:=F) (t:=t) hF hs hg ht F g.High.toNat [] 0 (by omega) (by omega) (by omega) (by simp;omega);exact ⟨l,e,by rw [hl];simp;omega⟩
end Go.Proofs.YtkbjbnkkfifbmaaGreat
namespace Go.Proofs.YtkbjbnkkfifbmaaGreat
open Go Go.RowKit Go.Eng
set_option maxRecDepth 10000
set_option linter.unusedVariables false
set_option linter.unusedSimpArgs false
theorem Mh {a b f:Int} (hb:0<b) (h1:f*b≤a) (h2:a<f*b+b):a/b=f:=by
 have g1:=Int.ediv_mul_le a (show b≠0 by omega);have g2:a<a/b*b+b:=by have:=Int.lt_ediv_add_one_mul_self a hb;rw [Int.add_mul] at this;omega
 rcases Int.lt_trichotomy (a/b) f with h|h|h
 ·have:=Int.mul_le_mul_of_nonneg_right (show a/b+1≤f by omega) (show 0≤b by omega);rw [Int.add_mul] at this;omega
 ·exact h
 ·have:=Int.mul_le_mul_of_nonneg_right (show f+1≤a/b by omega) (show 0≤b by omega);rw [Int.add_mul] at this;omega
theorem J4 (a b:Int) (hb:0<b):(0≤a∧a.tdiv b=a/b)∨(a<0∧a.tdiv b=-(-a/b)):=by
 rcases Int.lt_or_le a 0 with h|h
 ·right;refine ⟨h,?_⟩;have e:a=- -a:=by omega
  have:(- -a).tdiv b=-((-a).tdiv b):=Int.neg_tdiv (-a) b;rw [e,this,Int.tdiv_eq_ediv_of_nonneg (by omega),Int.neg_neg]
 ·exact .inl ⟨h,Int.tdiv_eq_ediv_of_nonneg h⟩
theorem Q6 {a b A:Int} (hb:0<b) (ha:-A≤a∧a≤A):-A≤a.tdiv b∧a.tdiv b≤A:=by
 rcases J4 a b hb with ⟨h,e⟩|⟨h,e⟩
 ·rw [e];have:=Int.ediv_le_self b h;have:=Int.ediv_nonneg h (show 0≤b by omega);omega
 ·rw [e];have:=Int.ediv_le_self b (show 0≤-a by omega);have:=Int.ediv_nonneg (show 0≤-a by omega) (show 0≤b by omega);omega
theorem Dj (a:Int) {b:Int} (hb:0<b):a/b*b≤a∧a<a/b*b+b:=by
 refine ⟨Int.ediv_mul_le a (by omega),?_⟩;have:=Int.lt_ediv_add_one_mul_self a hb;rw [Int.add_mul] at this;omega
theorem Qo {F:Nat} {a b:Int} (hb:0<b) (ha:-1000000000000000000≤a∧a≤1000000000000000000):Gp F a b=some (a/b):=by
 have hq:=Q6 hb ha;have hm:-2000000000000000000≤a.tdiv b*b∧a.tdiv b*b≤2000000000000000000:=by
  rcases J4 a b hb with ⟨h,e⟩|⟨h,e⟩
  ·have:=Dj a hb;have h0:0≤a/b*b:=Int.mul_nonneg (Int.ediv_nonneg h (by omega)) (by omega);rw [e];omega
  ·have:=Dj (-a) hb;have h0:0≤-a/b*b:=Int.mul_nonneg (Int.ediv_nonneg (by omega) (by omega)) (by omega);rw [e,Int.neg_mul];omega
 unfold Gp Kw;rw [if_neg (by omega),ckb (by omega),ckb (by omega)]
 by_cases hc:a.tdiv b*b>a
 ·rw [Cb (dT hc),ckb (by omega)];rcases J4 a b hb with ⟨h,e⟩|⟨h,e⟩
  ·have:=Dj a hb;rw [e] at hc;omega
  ·have hf:=Dj (-a) hb;rw [Mh (f:=a.tdiv b-1) hb]
   ·rw [e,Int.sub_mul,Int.neg_mul];omega
   ·rw [Int.sub_mul];omega
 ·rw [Bc (dF hc),Mh (f:=a.tdiv b) hb]
  ·omega
  ·rcases J4 a b hb with ⟨h,e⟩|⟨h,e⟩
   ·have:=Dj a hb;rw [e];omega
   ·have:=Dj (-a) hb;rw [e,Int.neg_mul] at hc ⊢;omega
theorem Ws {F:Nat} {a b:Int} (hb:0<b) (ha:-1000000000000000000≤a∧a≤1000000000000000000):K5 F a b=some (-(-a/b)):=by
 have hq:=Q6 hb ha;have hm:-2000000000000000000≤a.tdiv b*b∧a.tdiv b*b≤2000000000000000000:=by
  rcases J4 a b hb with ⟨h,e⟩|⟨h,e⟩
  ·have:=Dj a hb;have h0:0≤a/b*b:=Int.mul_nonneg (Int.ediv_nonneg h (by omega)) (by omega);rw [e];omega
  ·have:=Dj (-a) hb;have h0:0≤-a/b*b:=Int.mul_nonneg (Int.ediv_nonneg (by omega) (by omega)) (by omega);rw [e,Int.neg_mul];omega
 unfold K5 Kw;rw [if_neg (by omega),ckb (by omega),ckb (by omega)]
 by_cases hc:a.tdiv b*b<a
 ·rw [Cb (dT hc),ckb (by omega)];rcases J4 a b hb with ⟨h,e⟩|⟨h,e⟩
  ·have hf:=Dj a hb;rw [Mh (f:=-(a.tdiv b+1)) hb]
   ·rw [Int.neg_neg]
   ·rw [e,Int.neg_mul,Int.add_mul];omega
   ·rw [Int.neg_mul,Int.add_mul];omega
  ·have:=Dj (-a) hb;rw [e,Int.neg_mul] at hc;omega
 ·rw [Bc (dF hc),Mh (f:=-(a.tdiv b)) hb]
  ·rw [Int.neg_neg]
  ·rw [Int.neg_mul];omega
  ·rcases J4 a b hb with ⟨h,e⟩|⟨h,e⟩
   ·have:=Dj a hb;rw [e] at hc ⊢;rw [Int.neg_mul];omega
   ·have:=Dj (-a) hb;rw [e,Int.neg_neg];omega
def gLo (L t:Int):Int:=L*(262144-t*t)/(2*(262144+t*t))
def gHi (L t:Int):Int:=-(-(L*(262144-t*t))/(2*(262144+t*t)))
def loZ (L t e:Int):Int:=L*(1024*t)/(2*(262144+t*t))+gLo L t*gLo L t/(2*e)
def hiZ (L t e:Int):Int:=-(-(L*(1024*t))/(2*(262144+t*t))) + -(-(gHi L t*gHi L t)/(2*e))
theorem Hr {a b A:Int} (hb:0<b) (hA:0≤A) (ha:-(A*b)≤a∧a≤A*b):-A≤a/b∧a/b≤A:=by
 refine ⟨?_,Int.ediv_le_of_le_mul hb ha.2⟩;exact (Int.le_ediv_iff_mul_le hb).2 (by rw [Int.neg_mul];exact ha.1)
theorem gB {L t:Int} (hL:0≤L∧L≤1000000) (ht:-264≤t∧t≤264):(-1000000≤gLo L t∧gLo L t≤1000000)∧(-1000000≤gHi L t∧gHi L t≤1000000)∧(0≤L*(262144-t*t)∧L*(262144-t*t)≤1000000*262144)∧(-(1000000*270336)≤L*(1024*t)∧L*(1024*t)≤1000000*270336):=by
 have h1:=sqB ht;have h2:=J5 (x:=L) (y:=262144-t*t) (A:=1000000) (B:=262144) hL (by omega);have h3:=Qz (x:=L) (y:=1024*t) (A:=1000000) (B:=270336) (by omega) (by omega);refine ⟨Hr (by omega) (by omega) (by omega),?_,h2,h3⟩;have:=Hr (a:=-(L*(262144-t*t))) (b:=2*(262144+t*t)) (A:=1000000) (by omega) (by omega) (by omega);unfold gHi;omega
theorem S1 {F:Nat} {s:api_Site} {t g:Int} (hs:1≤s.Step∧s.Step≤2000) (hg:0≤g∧g≤200) (ht:-264≤t∧t≤264):E7 F s t g=some (gLo ((2*g+1)*s.Step) t):=by
 have h1:=sqB ht;have h0:=J5 (x:=2*g+1) (y:=s.Step) (A:=401) (B:=2000) (by omega) (by omega);have h2:=gB (L:=(2*g+1)*s.Step) (t:=t) (by omega) ht;unfold E7;rw [J1 ht,sbd];unfold slt;dsimp only;rw [ckb (by omega),ckb (by omega),ckb (by omega),ckb (by omega),ckb (by omega),Qo (by omega) (by omega)];rfl
theorem S3 {F:Nat} {s:api_Site} {t g:Int} (hs:1≤s.Step∧s.Step≤2000) (hg:0≤g∧g≤200) (ht:-264≤t∧t≤264):E8 F s t g=some (gHi ((2*g+1)*s.Step) t):=by
 have h1:=sqB ht;have h0:=J5 (x:=2*g+1) (y:=s.Step) (A:=401) (B:=2000) (by omega) (by omega);have h2:=gB (L:=(2*g+1)*s.Step) (t:=t) (by omega) ht;unfold E8;rw [J1 ht,sbd];unfold slt;dsimp only;rw [ckb (by omega),ckb (by omega),ckb (by omega),ckb (by omega),ckb (by omega),Ws (by omega) (by omega)];rfl
theorem T8 {F:Nat} {s:api_Site} {t g e:Int} (hs:1≤s.Step∧s.Step≤2000) (hz:0≤s.Z∧s.Z≤20000) (hg:0≤g∧g≤200) (ht:-264≤t∧t≤264) (he:1000000≤e∧e≤100000000):Ep F s t g e=some (s.Z+loZ ((2*g+1)*s.Step) t e):=by
 have h1:=sqB ht;have h0:=J5 (x:=2*g+1) (y:=s.Step) (A:=401) (B:=2000) (by omega) (by omega);obtain ⟨g1,_,_,g4⟩:=gB (L:=(2*g+1)*s.Step) (t:=t) (by omega) ht;have h2:=Qz (x:=gLo ((2*g+1)*s.Step) t) (y:=gLo ((2*g+1)*s.Step) t) (A:=1000000) (B:=1000000) g1 g1;have b1:=Hr (a:=(2*g+1)*s.Step*(1024*t)) (b:=2*(262144+t*t)) (A:=1000000) (by omega) (by omega) (by omega);have b2:=Hr (a:=gLo ((2*g+1)*s.Step) t*gLo ((2*g+1)*s.Step) t) (b:=2*e) (A:=1000000) (by omega) (by omega) (by omega);unfold Ep;rw [J1 ht,sbd,S1 hs hg ht,sbd];unfold slt;dsimp only;rw [ckb (by omega),ckb (by omega),ckb (by omega),ckb (by omega),ckb (by omega),ckb (by omega),ckb (by omega),Qo (by omega) (by omega),sbd,ckb (by omega),Qo (by omega) (by omega),sbd,ckb (by omega),Int.add_assoc];rfl
theorem T9 {F:Nat} {s:api_Site} {t g e:Int} (hs:1≤s.Step∧s.Step≤2000) (hz:0≤s.Z∧s.Z≤20000) (hg:0≤g∧g≤200) (ht:-264≤t∧t≤264) (he:1000000≤e∧e≤100000000):Er F s t g e=some (s.Z+hiZ ((2*g+1)*s.Step) t e):=by
 have h1:=sqB ht;have h0:=J5 (x:=2*g+1) (y:=s.Step) (A:=401) (B:=2000) (by omega) (by omega);obtain ⟨_,g1,_,g4⟩:=gB (L:=(2*g+1)*s.Step) (t:=t) (by omega) ht;have h2:=Qz (x:=gHi ((2*g+1)*s.Step) t) (y:=gHi ((2*g+1)*s.Step) t) (A:=1000000) (B:=1000000) g1 g1;have b1:=Hr (a:=-((2*g+1)*s.Step*(1024*t))) (b:=2*(262144+t*t)) (A:=1000000) (by omega) (by omega) (by omega);have b2:=Hr (a:=-(gHi ((2*g+1)*s.Step) t*gHi ((2*g+1)*s.Step) t)) (b:=2*e) (A:=1000000) (by omega) (by omega) (by omega);unfold Er;rw [J1 ht,sbd,S3 hs hg ht,sbd];unfold slt;dsimp only;rw [ckb (by omega),ckb (by omega),ckb (by omega),ckb (by omega),ckb (by omega),ckb (by omega),ckb (by omega),Ws (by omega) (by omega),sbd,ckb (by omega),Ws (by omega) (by omega),sbd,ckb (by omega),Int.add_assoc];rfl
def VE (e:api_Span):Prop:=1000000≤e.Lo∧e.Lo≤e.Hi∧e.Hi≤100000000
def Mc (s:api_Site) (t:Int) (e:api_Span) (g:Int):api_Span:=⟨s.Z+loZ ((2*g+1)*s.Step) (t-s.Width) e.Hi,s.Z+hiZ ((2*g+1)*s.Step) (t+s.Width) e.Lo⟩
theorem Tg {F:Nat} {s:api_Site} {t g:Int} {e:api_Span} (hn:beam_CheckSite F s=some 0) (hs:VS s) (he:VE e) (ht:0≤t∧t≤256) (hg:0≤g∧g<s.Gates):Hq F s t e g=some (Mc s t e g,0):=by
 obtain ⟨e1,e2,e3⟩:=he;have h1:=hs.gates;have h2:=hs.step;have h3:=hs.width;have hv:Dw e=true:=by unfold Dw;rw [dT e1,dT e2,dT e3];rfl
 unfold Hq;rw [hn,sbd,D8 ht,hv];simp only [bne_self_eq_false,cond_false,Bool.not_true,Bool.and_true,beq_self_eq_true];rw [gdT rfl,ckb (by omega),D8 (by omega)];simp only [cond_false,Bool.not_true];rw [ckb (by omega),ckb (by omega),T8 (by omega) hs.z (by omega) (by omega) (by omega),sbd,T9 (by omega) hs.z (by omega) (by omega) (by omega),sbd];rfl
def Vz:Bool:=[0,1,2,3].all fun t=>[0,1,2].all fun w=>[0,1,2,3,4].all fun g=>decide (loZ ((2*g+1)*1000) (t-w) 9000000≤hiZ ((2*g+1)*1000) (t+w) 8000000)
theorem Ul:Vz=true:=by kernel_rfl
theorem Yz {s:api_Site} {t g:Int} (hs:s.Step=1000) (hw:0≤s.Width∧s.Width≤2) (ht:0≤t∧t≤3) (hg:0≤g∧g≤4):(Mc s t ⟨8000000,9000000⟩ g).Lo≤(Mc s t ⟨8000000,9000000⟩ g).Hi:=by
 have h:=Ul;unfold Vz at h;rw [List.all_eq_true] at h;have h1:=h t (by simp;omega);rw [List.all_eq_true] at h1;have h2:=h1 s.Width (by simp;omega);rw [List.all_eq_true] at h2;have h3:=of_decide_eq_true (h2 g (by simp;omega));unfold Mc;rw [hs];dsimp only;omega
end Go.Proofs.YtkbjbnkkfifbmaaGreat
namespace Go.Proofs.YtkbjbnkkfifbmaaGreat
open Go Go.RowKit Go.Eng
set_option maxRecDepth 10000
set_option linter.unusedVariables false
set_option linter.unusedSimpArgs false
section
variable {κ ν:Type} [DecidableEq κ]
theorem Ng (B:List (κ×ν)) (k x:κ) (v:ν):lkM (upM B k v) x=if x=k then some v else lkM B x:=by
 induction B with
 | nil=>rfl
 | cons p B ih =>
  unfold upM
  by_cases h:k=p.1
  ·rw [if_pos h];unfold lkM;subst h
   by_cases hx:x=p.1
   ·rw [if_pos hx,if_pos hx]
   ·rw [if_neg hx,if_neg hx,if_neg hx]
  ·rw [if_neg h];unfold lkM
   by_cases hx:x=p.1
   ·rw [if_pos hx,if_neg (by rw [hx];exact fun e=>h e.symm),if_pos hx]
   ·rw [if_neg hx,ih]
    by_cases hk:x=k
    ·rw [if_pos hk,if_pos hk]
    ·rw [if_neg hk,if_neg hk,if_neg hx]
theorem Xj (B:List (κ×ν)) (k:κ) (v:ν):lkM (upM B k v) k=some v:=by rw [Ng,if_pos rfl]
theorem Vw {B:List (κ×ν)} {k:κ} {v:ν} (h:lkM B k=some v):(k,v)∈B:=by
 induction B with
 | nil=>cases h
 | cons p B ih =>
  unfold lkM at h
  by_cases hk:k=p.1
  ·rw [if_pos hk] at h;cases h;subst hk;exact .head _
  ·rw [if_neg hk] at h;exact .tail _ (ih h)
theorem Sv {B:List (κ×ν)} {k:κ}:(∃v,lkM B k=some v)↔k∈B.map (·.1):=by
 induction B with
 | nil=>simp [lkM]
 | cons p B ih =>
  unfold lkM
  by_cases hk:k=p.1
  ·simp [hk]
  ·rw [if_neg hk,ih];simp [hk]
theorem Zo {B:List (κ×ν)} {k:κ} {v:ν} {p:κ×ν} (h:p∈upM B k v):p=(k,v)∨p∈B:=by
 induction B with
 | nil=>simp [upM] at h;exact .inl h
 | cons q B ih =>
  unfold upM at h
  by_cases hk:k=q.1
  ·rw [if_pos hk] at h;rcases List.mem_cons.1 h with h|h
   ·exact .inl h
   ·exact .inr (.tail _ h)
  ·rw [if_neg hk] at h;rcases List.mem_cons.1 h with h|h
   ·exact .inr (h▸.head _)
   ·rcases ih h with h|h
    ·exact .inl h
    ·exact .inr (.tail _ h)
theorem Y2 {B:List (κ×ν)} {k x:κ} {v:ν}:x∈(upM B k v).map (·.1)↔x=k∨x∈B.map (·.1):=by
 rw [←Sv,←Sv,Ng]
 by_cases h:x=k
 ·simp [h]
 ·simp [h]
theorem Wr {B:List (κ×ν)} {k:κ} {v:ν} (hn:(B.map (·.1)).Nodup):((upM B k v).map (·.1)).Nodup:=by
 induction B with
 | nil=>simp [upM]
 | cons q B ih =>
  rw [List.map_cons,List.nodup_cons] at hn;unfold upM
  by_cases hk:k=q.1
  ·rw [if_pos hk,List.map_cons,List.nodup_cons];subst hk;exact hn
  ·rw [if_neg hk,List.map_cons,List.nodup_cons];exact ⟨fun h=>(Y2.1 h).elim (fun e=>hk e.symm) hn.1,ih hn.2⟩
end
def tot (B:List (mosaic_Key×List (List api_Span))):Nat:=(B.map fun p=>p.2.length).sum
def kl (B:List (mosaic_Key×List (List api_Span))) (k:mosaic_Key):List (List api_Span):=(lkM B k).getD []
theorem Zn (B:List (mosaic_Key×List (List api_Span))) (k:mosaic_Key) (l:List (List api_Span)):tot (upM B k l)+(kl B k).length=tot B+l.length:=by
 induction B with
 | nil=>simp [tot,upM,kl,lkM]
 | cons p B ih =>
  unfold upM kl lkM
  by_cases h:k=p.1
  ·rw [if_pos h,if_pos h];simp [tot];omega
  ·rw [if_neg h,if_neg h];have e1:∀C,tot (p::C)=p.2.length+tot C:=fun C=>by simp [tot]
   rw [e1,e1];have:((lkM B k).getD []).length=(kl B k).length:=rfl;omega
theorem Tt (B:List (mosaic_Key×List (List api_Span))) (k:mosaic_Key):(kl B k).length≤tot B:=by
 induction B with
 | nil=>simp [kl,lkM]
 | cons p B ih =>
  have e1:tot (p::B)=p.2.length+tot B:=by simp [tot]
  unfold kl lkM
  by_cases h:k=p.1
  ·rw [if_pos h,e1];simp
  ·rw [if_neg h,e1];have:((lkM B k).getD []).length=(kl B k).length:=rfl;omega
theorem Su {B:List (mosaic_Key×List (List api_Span))} (h:∀p∈B,p.2≠[]):B.length≤tot B:=by
 induction B with
 | nil=>simp [tot]
 | cons p B ih =>
  have e1:tot (p::B)=p.2.length+tot B:=by simp [tot]
  have:=List.length_pos_iff.2 (h p (.head _));have:=ih fun q hq=>h q (.tail _ hq);rw [e1,List.length_cons];omega
def c3 (a b:Int):Int:=if a<b then -1 else if b<a then 1 else 0
def X4 (x y:api_Span):Int:=if c3 x.Lo y.Lo≠0 then c3 x.Lo y.Lo else c3 x.Hi y.Hi
def Lr:List api_Span→List api_Span→Int
 | [],[]=>0
 | [],_::_=>-1
 | _::_,[]=>1
 | x::a,y::b=>if X4 x y≠0 then X4 x y else Lr a b
theorem Gn (a b:Int):Ab a b=c3 a b:=by
 unfold Ab Bz c3;simp only [bne_self_eq_false,cond_false]
 by_cases h1:a<b
 ·rw [dT h1,if_pos h1];rfl
 ·by_cases h2:b<a
  ·rw [dF h1,if_neg h1,if_pos h2,dT h2];rfl
  ·rw [dF h1,if_neg h1,if_neg h2,dF h2];rfl
def orL:List Int→Int
 | []=>0
 | x::l=>if x≠0 then x else orL l
theorem Zc (l:List Int):∀(n i:Nat),i≤l.length→l.length-i<n→l.length<1000000→Ew l n (i:Int)=some (orL (l.drop i)):=by
 intro n
 induction n with
 | zero=>intro i _ h;omega
 | succ n ih =>
  intro i hi hn hl;rw [Ew];unfold H0
  by_cases hc:i<l.length
  ·rw [Cb (dT (by omega)),Dg i l[i] rfl (List.getElem?_eq_getElem hc),List.drop_eq_getElem_cons hc];unfold orL
   by_cases h:l[i]=0
   ·rw [Bc (by simpa using h),if_neg (by simpa using h),ckb (by omega)];exact ih (i+1) (by omega) (by omega) hl
   ·rw [Cb (by simpa using h),if_pos h]
  ·rw [Bc (dF (by omega)),List.drop_eq_nil_of_le (by omega)];rfl
theorem Yc {F:Nat} (l:List Int) (h:l.length<F) (h2:l.length<1000000):Hv F l=some (orL l):=by
 have:=Zc l F 0 (by omega) (by omega) h2;rw [List.drop_zero] at this;exact this
theorem A0z (a b:Int):orL [a,b]=if a≠0 then a else b:=by
 show (if a≠0 then a else if b≠0 then b else 0)=_
 split
 ·rfl
 ·split<;>omega
theorem Ri {F:Nat} (hF:100≤F) (x y:api_Span):Ec F x y=some (X4 x y):=by
 unfold Ec;rw [Gn,Gn,Yc _ (by simp;omega) (by simp),sbd,A0z];rfl
theorem X3 {F:Nat} (hF:100≤F) (a b:List api_Span) (ha:a.length<1000000):∀(n i:Nat),i≤a.length→a.length-i<n →
  Aa F a b n (i:Int)=some (if i≤b.length then Lr (a.drop i) (b.drop i) else if i<a.length then 1 else 0):=by
 intro n
 induction n with
 | zero=>intro i _ h;omega
 | succ n ih =>
  intro i hi hn;rw [Aa];unfold Ak
  by_cases hc:i<a.length
  ·rw [Cb (dT (by omega)),Dg i a[i] rfl (List.getElem?_eq_getElem hc)]
   by_cases hb:i<b.length
   ·rw [Bc (dF (by omega)),Dg i b[i] rfl (List.getElem?_eq_getElem hb),Ri hF,sbd,if_pos (by omega),List.drop_eq_getElem_cons hc,List.drop_eq_getElem_cons hb];unfold Lr
    by_cases h:X4 a[i] b[i]=0
    ·rw [Bc (by simpa using h),if_neg (by simpa using h),ckb (by omega)];have:=ih (i+1) (by omega) (by omega);rw [if_pos (by omega)] at this;exact this
    ·rw [Cb (by simpa using h),if_pos h]
   ·rw [Cb (dT (by omega))]
    by_cases hb2:i≤b.length
    ·rw [if_pos hb2,List.drop_eq_nil_of_le (show b.length≤i by omega),List.drop_eq_getElem_cons hc];rfl
    ·rw [if_neg hb2,if_pos hc]
  ·rw [Bc (dF (by omega))];unfold Al;have e:a.drop i=[]:=List.drop_eq_nil_of_le (by omega)
   by_cases hb:a.length<b.length
   ·rw [Cb (dT (by omega)),if_pos (by omega),e,List.drop_eq_getElem_cons (l:=b) (by omega)];rfl
   ·rw [Bc (dF (by omega))]
    by_cases hb2:i≤b.length
    ·rw [if_pos hb2,e,List.drop_eq_nil_of_le (show b.length≤i by omega)];rfl
    ·rw [if_neg hb2,if_neg hc]
theorem Nw {F:Nat} (hF:100≤F) (a b:List api_Span) (ha:a.length<F) (h2:a.length<1000000):Eb F a b=some (Lr a b):=by
 unfold Eb An;have:=X3 hF a b h2 F 0 (by omega) (by omega);rw [if_pos (by omega),List.drop_zero,List.drop_zero] at this;have e:Aa F a b F 0=some (Lr a b):=this;rw [e];rfl
theorem A0t {x:Int} (h:0≤x∧x≤9000000000000000000):IntKind.u64.wrap x=x:=by
 have:=h.1;have:=h.2;simp only [IntKind.wrap,IntKind.signed,IntKind.bits];simp;omega
theorem Ta {F:Nat} (hF:100≤F) (l:List (List api_Span)) (v:List api_Span) (hl:l.length<1000000) (hv:∀x∈l,x.length<F∧x.length<1000000):∀(n i j:Nat),i≤j→j≤l.length→j-i<n →
  ∃(r:Nat) (b:Bool),Ae F l v n (j:Int) (i:Int)=some ((r:Int),b)∧r≤l.length∧i≤r∧r≤j∧(b=true↔∃x,l[r]? = some x∧Lr x v=0)∧(r=i∨∃x,l[r-1]? = some x∧Lr x v<0)∧(r=j∨∃x,l[r]? = some x∧¬Lr x v<0):=by
 intro n
 induction n with
 | zero=>intro i j _ _ h;omega
 | succ n ih =>
  intro i j hij hj hn;rw [Ae];unfold Ao
  by_cases hc:i<j
  ·have hm:(i+j)/2<l.length:=by omega
   rw [Cb (dT (by omega)),ckb (by omega),A0t (by omega),Int.fdiv_eq_ediv_of_nonneg _ (by omega),ckb (by omega),Dg ((i+j)/2) l[(i+j)/2] (by omega) (List.getElem?_eq_getElem hm)];obtain ⟨h1,h2⟩:=hv _ (List.getElem_mem hm);rw [Nw hF _ _ h1 h2,sbd]
   by_cases hlt:Lr l[(i+j)/2] v<0
   ·rw [Cb (dT hlt),ckb (by omega),show ((i:Int)+(j:Int))/2+1=(((i+j)/2+1:Nat):Int) by omega];obtain ⟨r,b,e,r1,r2,r3,r4,r5,r6⟩:=ih ((i+j)/2+1) j (by omega) hj (by omega);refine ⟨r,b,e,r1,by omega,r3,r4,.inr ?_,r6⟩;rcases r5 with h|h
    ·exact ⟨_,by rw [h,Nat.add_sub_cancel];exact List.getElem?_eq_getElem hm,hlt⟩
    ·exact h
   ·rw [Bc (dF hlt),show ((i:Int)+(j:Int))/2=(((i+j)/2:Nat):Int) by omega];obtain ⟨r,b,e,r1,r2,r3,r4,r5,r6⟩:=ih i ((i+j)/2) (by omega) (by omega) (by omega);refine ⟨r,b,e,r1,r2,by omega,r4,r5,.inr ?_⟩;rcases r6 with h|h
    ·exact ⟨_,by rw [h];exact List.getElem?_eq_getElem hm,hlt⟩
    ·exact h
  ·rw [Bc (dF (by omega))];unfold Ap;have:i=j:=by omega
   subst this
   by_cases hi:i<l.length
   ·rw [Cb (dT (by omega)),Dg i l[i] rfl (List.getElem?_eq_getElem hi)];obtain ⟨h1,h2⟩:=hv _ (List.getElem_mem hi);rw [Nw hF _ _ h1 h2,sbd];refine ⟨i,_,rfl,hj,Nat.le_refl _,Nat.le_refl _,?_,.inl rfl,.inl rfl⟩;rw [List.getElem?_eq_getElem hi];simp
   ·rw [Bc (dF (by omega))];refine ⟨i,_,rfl,hj,Nat.le_refl _,Nat.le_refl _,?_,.inl rfl,.inl rfl⟩;rw [List.getElem?_eq_none (by omega)];simp
theorem Wj {F:Nat} (hF:100≤F) (N:mosaic_Node) (m:mosaic_Message) (hl:(kl N.kept m.Key).length<F∧(kl N.kept m.Key).length<1000000) (hv:∀x∈kl N.kept m.Key,x.length<F∧x.length<1000000) :
  ∃(r:Nat) (b:Bool),C6 F N m=some ((r:Int),b)∧r≤(kl N.kept m.Key).length∧(b=true↔∃x,(kl N.kept m.Key)[r]? = some x∧Lr x m.Vals=0)∧(r=0∨∃x,(kl N.kept m.Key)[r-1]? = some x∧Lr x m.Vals<0)∧(r=(kl N.kept m.Key).length∨∃x,(kl N.kept m.Key)[r]? = some x∧¬Lr x m.Vals<0):=by
 obtain ⟨r,b,e,r1,_,_,r4,r5,r6⟩:=Ta hF (kl N.kept m.Key) m.Vals hl.2 hv F 0 (kl N.kept m.Key).length (by omega) (Nat.le_refl _) (by omega);refine ⟨r,b,?_,r1,r4,r5,r6⟩;unfold C6 Ar;have e':Ae F ((lkM N.kept m.Key).getD []) m.Vals F (((lkM N.kept m.Key).getD []).length:Int) 0=some ((r:Int),b):=e;rw [e'];rfl
end Go.Proofs.YtkbjbnkkfifbmaaGreat
namespace Go.Proofs.YtkbjbnkkfifbmaaGreat
open Go Go.RowKit Go.Eng
set_option maxRecDepth 10000
set_option linter.unusedVariables false
set_option linter.unusedSimpArgs false
def radM (s:mosaic_Spec):List (ByteArray×mosaic_Radar):=s.Radars.foldl (fun B r=>upM B r.Site.Name r) []
def pix (s:mosaic_Spec):Nat:=(s.Grid.Wide*s.Grid.High).toNat
structure GS (F:Nat) (s:mosaic_Spec):Prop where
 g:VG s.Grid
 e:VE s.Earth
 age:1≤s.Age∧s.Age≤86400
 small:pix s≤500
 r:∀n x,lkM (radM s) n=some x→VS x.Site∧beam_CheckSite F x.Site=some 0∧(-3600≤x.Offset.Lo∧x.Offset.Lo≤x.Offset.Hi∧x.Offset.Hi≤3600)∧n≠ByteArray.empty∧x.Site.Name=n
def okK (s:mosaic_Spec) (k:mosaic_Key):Prop:=(∃r,lkM (radM s) k.Name=some r)∧(0≤k.Tilt∧k.Tilt≤256)∧(0≤k.Time∧k.Time≤4294967296)
structure okM (s:mosaic_Spec) (m:mosaic_Message):Prop where
 key:okK s m.Key
 len:m.Vals.length=pix s
 vals:∀v∈m.Vals,0≤v.Lo∧v.Lo≤v.Hi∧v.Hi≤1000000
def G0 (F:Nat) (s:mosaic_Spec) (w:mosaic_where):List api_Span :=
 (((Fi F ((lkM (radM s) w.name).getD default).Site w.tilt s.Grid).getD ([],0)).1).map fun v=>if 0≤v then Mc ((lkM (radM s) w.name).getD default).Site w.tilt s.Earth (v.tmod ((lkM (radM s) w.name).getD default).Site.Gates) else ⟨1,0⟩
def LV (F:Nat) (s:mosaic_Spec) (L:List (mosaic_where×List api_Span)):Prop:=∀w l,lkM L w=some l→l=G0 F s w
structure NI (F:Nat) (s:mosaic_Spec) (N:mosaic_Node):Prop where
 spec:N.spec=s
 radars:N.radars=radM s
 nd:(N.kept.map (·.1)).Nodup
 ok:∀p∈N.kept,okK s p.1∧p.2≠[]∧∀v∈p.2,v.length=pix s
 count:N.count=(tot N.kept:Int)
 looks:LV F s N.looks
def Ml (l:List (List api_Span)) (r:Nat) (v:List api_Span):List (List api_Span):=l.take r++[v]++l.drop r
def Wl (N:mosaic_Node) (m:mosaic_Message) (r:Nat):mosaic_Node:=⟨N.spec,N.radars,N.horizon,upM N.kept m.Key (Ml (kl N.kept m.Key) r m.Vals),N.count+1,N.looks⟩
theorem Pw {l:List (List api_Span)} {r:Nat} {v:List api_Span} (h:r≤l.length):(Ml l r v).length=l.length+1:=by unfold Ml;simp;omega
theorem Ug {l:List (List api_Span)} {r:Nat} {v x:List api_Span}:x∈Ml l r v↔x=v∨x∈l:=by
 unfold Ml;rw [List.mem_append,List.mem_append,List.mem_singleton];constructor
 ·rintro ((h|h)|h)
  ·exact .inr (List.mem_of_mem_take h)
  ·exact .inl h
  ·exact .inr (List.mem_of_mem_drop h)
 ·rintro (h|h)
  ·exact .inl (.inr h)
  ·rw [←List.take_append_drop r l] at h;rcases List.mem_append.1 h with h|h
   ·exact .inl (.inl h)
   ·exact .inr h
theorem NI.kl_ok {F:Nat} {s:mosaic_Spec} {N:mosaic_Node} (h:NI F s N) (k:mosaic_Key):∀v∈kl N.kept k,v.length=pix s:=by
 intro v hv;unfold kl at hv
 cases e:lkM N.kept k with
 | none=>rw [e] at hv;cases hv
 | some l=>rw [e] at hv;exact (h.ok _ (Vw e)).2.2 v hv
theorem NI.put {F:Nat} {s:mosaic_Spec} {N:mosaic_Node} {m:mosaic_Message} {r:Nat} (h:NI F s N) (hm:okM s m) (hr:r≤(kl N.kept m.Key).length):NI F s (Wl N m r):=by
 refine ⟨h.spec,h.radars,Wr h.nd,?_,?_,h.looks⟩
 ·intro p hp;rcases Zo hp with rfl|hp
  ·refine ⟨hm.key,fun e=>?_,fun v hv=>?_⟩
   ·have:=Pw (v:=m.Vals) hr;have e':Ml (kl N.kept m.Key) r m.Vals=[]:=e;rw [e'] at this;simp at this
   ·rcases Ug.1 hv with rfl|hv
    ·exact hm.len
    ·exact h.kl_ok _ v hv
  ·exact h.ok p hp
 ·have h1:=Zn N.kept m.Key (Ml (kl N.kept m.Key) r m.Vals);rw [Pw hr] at h1;show N.count+1=_;rw [h.count];show _=((tot (upM N.kept m.Key (Ml (kl N.kept m.Key) r m.Vals)):Nat):Int);omega
theorem L9 {n a b:Int} (h:a≤n∧n≤b):Bh n a b=true:=by unfold Bh;rw [dT h.1,dT h.2];rfl
theorem P3 {v:api_Span} {a b:Int} (h:a≤v.Lo∧v.Lo≤v.Hi∧v.Hi≤b):C0 v a b=true:=by unfold C0;rw [dT h.1,dT h.2.1,dT h.2.2];rfl
theorem Uy {m:mosaic_Message} (hl:m.Vals.length<1000000) (hv:∀v∈m.Vals,0≤v.Lo∧v.Lo≤v.Hi∧v.Hi≤1000000):∀(n i:Nat),i≤m.Vals.length→m.Vals.length-i<n→By m n (i:Int)=some 0:=by
 intro n
 induction n with
 | zero=>intro i _ h;omega
 | succ n ih =>
  intro i hi hn;rw [By];unfold De
  by_cases hc:i<m.Vals.length
  ·rw [Cb (dT (by omega)),Dg i m.Vals[i] rfl (List.getElem?_eq_getElem hc),P3 (hv _ (List.getElem_mem hc)),Bc (c:=!true) rfl,ckb (by omega)];exact ih (i+1) (by omega) (by omega)
  ·rw [Bc (dF (by omega))];rfl
theorem Wi {F:Nat} {s:mosaic_Spec} (h:GS F s):s.Grid.Wide*s.Grid.High=(pix s:Int)∧1≤pix s:=by
 have h1:=h.g.wide;have h2:=h.g.high;have h3:=J5 (x:=s.Grid.Wide) (y:=s.Grid.High) (A:=64) (B:=64) (by omega) (by omega);have h4:1*1≤s.Grid.Wide*s.Grid.High:=Int.mul_le_mul h1.1 h2.1 (by omega) (by omega);unfold pix;omega
theorem Ww {F:Nat} {s:mosaic_Spec} {N:mosaic_Node} {m:mosaic_Message} (hF:1000≤F) (hs:GS F s) (hN:NI F s N) (hm:okM s m):D6 F N m=some 0:=by
 obtain ⟨r,hr⟩:=hm.key.1;have h1:=Wi hs;have h2:=hs.small;unfold D6;rw [hN.radars,hr,Bc (c:=!(some r).isSome) rfl,L9 hm.key.2.1,L9 hm.key.2.2,Bc (c:=bif !true then true else !true) rfl,hN.spec,ckb (by omega),Bc (by rw [hm.len,h1.1];simp)];exact Uy (by rw [hm.len];omega) hm.vals F 0 (by omega) (by rw [hm.len];omega)
theorem Ze {F:Nat} {s:mosaic_Spec} {N:mosaic_Node} {m:mosaic_Message} {r:Nat} {b:Bool} (hF:1000≤F) (hs:GS F s) (hN:NI F s N) (hm:okM s m) (hc:N.count<1000000) (hp:C6 F N m=some ((r:Int),b)) (hr:r≤(kl N.kept m.Key).length):Ed F N m=some (Wl N m r):=by
 have h2:=hs.small;have h3:=Tt N.kept m.Key;have h4:=hN.count;unfold Ed;rw [hp,sbd];unfold Bb Au;rw [show (lkM N.kept m.Key).getD []=kl N.kept m.Key from rfl,Mb (by simp;omega) (by decide),List.nil_append,sbd,Mb (by rw [hm.len];simp;omega) (by decide),List.nil_append,sbd];unfold Gk;rw [if_pos ⟨by omega,by omega,rfl,by omega⟩,sbd,ckb (by omega)];rfl
theorem V2 {F:Nat} {s:mosaic_Spec} {N:mosaic_Node} {m:mosaic_Message} (hF:1000≤F) (hs:GS F s) (hN:NI F s N) (hm:okM s m) (hh:N.horizon≤m.Key.Time) (hc:N.count<256) :
  ∃(r:Nat) (b:Bool),C2 F N m=some (!b,0,if b then N else Wl N m r)∧r≤(kl N.kept m.Key).length∧(b=true↔∃x,(kl N.kept m.Key)[r]? = some x∧Lr x m.Vals=0)∧(r=0∨∃x,(kl N.kept m.Key)[r-1]? = some x∧Lr x m.Vals<0)∧(r=(kl N.kept m.Key).length∨∃x,(kl N.kept m.Key)[r]? = some x∧¬Lr x m.Vals<0):=by
 have h2:=hs.small;have h3:=Tt N.kept m.Key;have h4:=hN.count;obtain ⟨r,b,e,r1,r2,r3,r4⟩:=Wj (F:=F) (by omega) N m (by omega) (fun x hx=>by rw [hN.kl_ok _ x hx];omega);refine ⟨r,b,?_,r1,r2,r3,r4⟩;unfold C2 C8;rw [sbd,cond_false,Ww hF hs hN hm,sbd,Bc (c:=(0:Int) != 0) rfl,Bc (dF (by omega)),e,sbd]
 cases b with
 | true=>rfl
 | false =>
  rw [Bc (c:=((r:Int),false).2) rfl,Bc (dF (by omega)),Ze hF hs hN hm (by omega) e r1,sbd];rfl
end Go.Proofs.YtkbjbnkkfifbmaaGreat
namespace Go.Proofs.YtkbjbnkkfifbmaaGreat
open Go Go.RowKit Go.Eng
set_option maxRecDepth 10000
set_option linter.unusedVariables false
set_option linter.unusedSimpArgs false
def ksN (N:mosaic_Node):List mosaic_Key:=Bs (N.kept.map (·.1))
def Lw (N:mosaic_Node):List mosaic_Message:=(ksN N).flatMap fun k=>(kl N.kept k).map (mosaic_Message.mk k)
theorem Hw (N:mosaic_Node):(ksN N).length=N.kept.length∧(ksN N).Perm (N.kept.map (·.1))∧(ksN N).Pairwise (fun x y=>¬KLt y x):=by
 obtain ⟨h1,h2,h3⟩:=He E9 N3 (N.kept.map (·.1));refine ⟨by unfold ksN Bs;rw [h1];simp,h2,h3.imp ?_⟩;intro x y h hlt;rw [(Mm y x).2 hlt] at h;cases h
theorem Kq {N:mosaic_Node} {k:mosaic_Key}:k∈ksN N↔∃l,lkM N.kept k=some l:=by
 rw [(Hw N).2.1.mem_iff,Sv]
theorem NI.small {F:Nat} {s:mosaic_Spec} {N:mosaic_Node} (h:NI F s N):(ksN N).length≤tot N.kept:=by
 rw [(Hw N).1];exact Su fun p hp=>(h.ok p hp).2.1
theorem NI.key {F:Nat} {s:mosaic_Spec} {N:mosaic_Node} (h:NI F s N) {k:mosaic_Key} (hk:k∈ksN N):okK s k∧kl N.kept k≠[]:=by
 obtain ⟨l,hl⟩:=Kq.1 hk;have:=h.ok _ (Vw hl);refine ⟨this.1,?_⟩;unfold kl;rw [hl];exact this.2.1
theorem Qf {F:Nat} {N:mosaic_Node} (h:N.kept.length≤1000000):Fa F N=some (ksN N):=by unfold Fa;rw [if_pos h];rfl
theorem V4 {F:Nat} {N:mosaic_Node} {x:Int} {k2:Int→List mosaic_Message→Option (List mosaic_Message)} {k:mosaic_Key} (hv:∀v∈kl N.kept k,v.length≤10000) (hx:0≤x∧x≤1000000) (hk:(kl N.kept k).length≤1000) :
  ∀(n i:Nat) (acc:List mosaic_Message),i≤(kl N.kept k).length→(kl N.kept k).length-i<n→acc.length+((kl N.kept k).length-i)≤10000000→Cg F N x k2 k n (i:Int) acc=k2 (x+1) (acc++((kl N.kept k).drop i).map (mosaic_Message.mk k)):=by
 intro n
 induction n with
 | zero=>intro i acc _ h;omega
 | succ n ih =>
  intro i acc hi hn ha;rw [Cg];unfold E4;rw [show (lkM N.kept k).getD []=kl N.kept k from rfl]
  by_cases hc:i<(kl N.kept k).length
  ·have hl:=hv _ (List.getElem_mem hc);rw [Cb (dT (by omega)),Dg i (kl N.kept k)[i] rfl (List.getElem?_eq_getElem hc)];unfold Au;rw [Mb (by simp;omega) (by decide),List.nil_append,sbd,Mb (by simp;omega) (by decide),ckb (by omega)];have:=ih (i+1) (acc++[mosaic_Message.mk k (kl N.kept k)[i]]) (by omega) (by omega) (by simp;omega);rw [List.append_assoc,List.singleton_append,←List.map_cons,←List.drop_eq_getElem_cons hc] at this;exact this
  ·rw [Bc (dF (by omega)),List.drop_eq_nil_of_le (by omega)];unfold E6;rw [ckb (by omega),List.map_nil,List.append_nil]
theorem V5 {F:Nat} {N:mosaic_Node} {L:List mosaic_Key} (hF:1000≤F) (hL:L.length≤1000) (hv:∀k,∀v∈kl N.kept k,v.length≤10000) (hk:∀k,(kl N.kept k).length<1000) :
  ∀(n i:Nat) (acc:List mosaic_Message),i≤L.length→L.length-i<n→acc.length+1000*(L.length-i)≤10000000→Bu F N L n (i:Int) acc=some (acc++(L.drop i).flatMap fun k=>(kl N.kept k).map (mosaic_Message.mk k)):=by
 intro n
 induction n with
 | zero=>intro i acc _ h;omega
 | succ n ih =>
  intro i acc hi hn ha;rw [Bu];unfold E3
  by_cases hc:i<L.length
  ·have h1:=hk L[i];rw [Cb (dT (by omega)),Dg i L[i] rfl (List.getElem?_eq_getElem hc)];have h2:=V4 (F:=F) (N:=N) (x:=i) (k2:=Bu F N L n) (k:=L[i]) (hv _) (by omega) (by omega) F 0 acc (by omega) (by omega) (by omega);rw [List.drop_zero] at h2;have h3:=ih (i+1) (acc++(kl N.kept L[i]).map (mosaic_Message.mk L[i])) (by omega) (by omega) (by simp;omega);rw [List.append_assoc,←List.flatMap_cons (f:=fun k=>(kl N.kept k).map (mosaic_Message.mk k)),←List.drop_eq_getElem_cons hc] at h3;exact h2.trans h3
  ·rw [Bc (dF (by omega)),List.drop_eq_nil_of_le (by omega)];unfold E5;rw [List.flatMap_nil,List.append_nil]
theorem W8 {N:mosaic_Node} (hk:∀k,(kl N.kept k).length<1000) (L:List mosaic_Key):(L.flatMap fun k=>(kl N.kept k).map (mosaic_Message.mk k)).length≤1000*L.length:=by
 induction L with
 | nil=>simp
 | cons k L ih =>
  rw [List.flatMap_cons,List.length_append,List.length_map,List.length_cons];have:=hk k;omega
theorem Yo {F:Nat} {s:mosaic_Spec} {N:mosaic_Node} (hF:1000≤F) (hs:GS F s) (h:NI F s N) (ht:tot N.kept<900):D4 F N=some (Lw N):=by
 have h1:=h.small;have h2:=(Hw N).1;have h3:=hs.small;unfold D4;rw [Qf (by omega),sbd];have:=V5 (F:=F) (N:=N) (L:=ksN N) hF (by omega) (fun k v hv=>by rw [h.kl_ok k v hv];omega) (fun k=>by have:=Tt N.kept k;omega) F 0 [] (by omega) (by omega) (by simp;omega);rw [List.drop_zero,List.nil_append] at this;exact this
theorem Rb {F:Nat} {s:mosaic_Spec} {N:mosaic_Node} (hF:1000≤F) (hs:GS F s) (h:NI F s N) (ht:tot N.kept<900):Fb F N []=some (Lw N,0):=by
 have h1:=h.small;have h2:=W8 (N:=N) (fun k=>by have:=Tt N.kept k;omega) (ksN N);have h3:(Lw N).length≤1000000:=Nat.le_trans h2 (by omega);unfold Fb;rw [if_neg (by simp),Yo hF hs h ht,sbd,if_pos h3];have e:(Lw N).filter (Ru N (F8 []))=Lw N:=by
  rw [List.filter_eq_self];intro m _;rfl
 rw [e]
theorem Qe {F:Nat} {s:mosaic_Spec} {N:mosaic_Node} (h:NI F s N) (ht:tot N.kept<900):D1 F N=some ((ksN N).filter fun k=>decide (2≤(kl N.kept k).length)):=by
 have h1:=h.small;have h2:=(Hw N).1;unfold D1;rw [if_pos (by omega)];show some ((ksN N).filter _)=_
 congr 1
 apply List.filter_congr;intro k _;show (!decide (((kl N.kept k).length:Int)<2))=_
 by_cases hk:2≤(kl N.kept k).length
 ·rw [dT hk,dF (by omega)];rfl
 ·rw [dF hk,dT (by omega)];rfl
theorem Js {N:mosaic_Node} {m:mosaic_Message}:m∈Lw N↔m.Vals∈kl N.kept m.Key:=by
 unfold Lw;rw [List.mem_flatMap];constructor
 ·rintro ⟨k,_,hm⟩;obtain ⟨v,hv,rfl⟩:=List.mem_map.1 hm;exact hv
 ·intro hv;refine ⟨m.Key,?_,List.mem_map.2 ⟨m.Vals,hv,rfl⟩⟩;rw [Kq];unfold kl at hv
  cases e:lkM N.kept m.Key with
  | none=>rw [e] at hv;cases hv
  | some l=>exact ⟨l,rfl⟩
end Go.Proofs.YtkbjbnkkfifbmaaGreat
namespace Go.Proofs.YtkbjbnkkfifbmaaGreat
open Go Go.RowKit Go.Eng
set_option maxRecDepth 10000
set_option linter.unusedVariables false
set_option linter.unusedSimpArgs false
theorem P2 {α:Type} {x d:α}:(some x).getD d=x:=rfl
def Jl (s:mosaic_Spec) (t:Int) (r:mosaic_Radar) (v:Int):api_Span:=if 0≤v then Mc r.Site t s.Earth (v.tmod r.Site.Gates) else ⟨1,0⟩
theorem Vx {F:Nat} {s:mosaic_Spec} {N:mosaic_Node} {k:mosaic_Key} {r:mosaic_Radar} {V:List Int} (hs:GS F s) (hsp:N.spec=s) (hr:N.radars=radM s) (hk:okK s k) (hrk:lkM (radM s) k.Name=some r) (hV:V.length≤1000) :
  ∀(n i:Nat) (acc:List api_Span),i≤V.length→V.length-i<n→acc.length≤i→Br F N k (V,0) n acc (i:Int)=some (acc++(V.drop i).map (Jl s k.Tilt r),upM N.looks ⟨k.Name,k.Tilt⟩ (acc++(V.drop i).map (Jl s k.Tilt r))):=by
 obtain ⟨v1,v2,_,_,_⟩:=hs.r _ _ hrk;have hg:=v1.gates;intro n
 induction n with
 | zero=>intro i acc _ h;omega
 | succ n ih =>
  intro i acc hi hn ha;rw [Br];unfold Du;rw [show (V,(0:Int)).1=V from rfl]
  by_cases hc:i<V.length
  ·have fin:∀b:api_Span,b=Jl s k.Tilt r V[i]→C7 acc i (Br F N k (V,0) n) b.Lo b.Hi=some (acc++(V.drop i).map (Jl s k.Tilt r),upM N.looks ⟨k.Name,k.Tilt⟩ (acc++(V.drop i).map (Jl s k.Tilt r))):=by
    intro b hb;unfold C7;rw [Mb (by simp;omega) (by decide),ckb (by omega)];have:=ih (i+1) (acc++[b]) (by omega) (by omega) (by simp;omega);rw [List.append_assoc,List.singleton_append,hb,←List.map_cons,←List.drop_eq_getElem_cons hc] at this;rw [hb];exact this
   rw [Cb (dT (by omega)),Dg i V[i] rfl (List.getElem?_eq_getElem hc),hr,hrk,P2]
   by_cases hv:V[i]≥0
   ·have e1:Dh V[i] r.Site.Gates=some (V[i].tmod r.Site.Gates):=by unfold Dh;rw [if_neg (by omega)]
    have h0:=Int.tmod_nonneg r.Site.Gates hv;have h1:=Int.tmod_lt_of_pos V[i] (show 0<r.Site.Gates by omega);rw [Cb (dT hv),e1,sbd,hsp,show (api_Site.mk r.Site.Name r.Site.X r.Site.Y r.Site.Z r.Site.Rose r.Site.Gates r.Site.Step r.Site.Width)=r.Site from rfl,Tg v2 v1 hs.e hk.2.1 ⟨h0,h1⟩,sbd];exact fin _ (by unfold Jl;rw [if_pos hv])
   ·rw [Bc (dF hv)];exact fin ⟨1,0⟩ (by unfold Jl;rw [if_neg (by omega)])
  ·rw [Bc (dF (by omega)),List.drop_eq_nil_of_le (by omega)];unfold Dv;rw [List.map_nil,List.append_nil]
theorem Mx {F:Nat} {s:mosaic_Spec} {k:mosaic_Key} {r:mosaic_Radar} (hF:200≤F) (hs:GS F s) (hk:okK s k) (hrk:lkM (radM s) k.Name=some r) :
  ∃V,Fi F r.Site k.Tilt s.Grid=some (V,0)∧V.length=pix s∧G0 F s ⟨k.Name,k.Tilt⟩=V.map (Jl s k.Tilt r):=by
 obtain ⟨v1,v2,_,_,_⟩:=hs.r _ _ hrk;obtain ⟨V,e,hl⟩:=X0 (F:=F) hF v2 v1 hs.g hk.2.1;refine ⟨V,e,hl,?_⟩;unfold G0;dsimp only;rw [hrk,P2,e,P2];rfl
theorem Sg {F:Nat} {s:mosaic_Spec} {k:mosaic_Key} (hF:200≤F) (hs:GS F s) (hk:okK s k):(G0 F s ⟨k.Name,k.Tilt⟩).length=pix s:=by
 obtain ⟨r,hr⟩:=hk.1;obtain ⟨V,_,hl,e⟩:=Mx hF hs hk hr;rw [e,List.length_map,hl]
theorem Xk {F:Nat} {s:mosaic_Spec} {N:mosaic_Node} {k:mosaic_Key} (hF:1000≤F) (hs:GS F s) (hsp:N.spec=s) (hr:N.radars=radM s) (hl:LV F s N.looks) (hk:okK s k) :
  ∃L,Dt F N k=some (G0 F s ⟨k.Name,k.Tilt⟩,L)∧LV F s L:=by
 obtain ⟨r,hrk⟩:=hk.1;obtain ⟨V,e,hV,eb⟩:=Mx (F:=F) (by omega) hs hk hrk;have h2:=hs.small;unfold Dt
 cases hq:lkM N.looks (mosaic_where.mk k.Name k.Tilt) with
 | some l =>
  rw [Cb (c:=(some l).isSome) rfl,P2,hl _ _ hq];exact ⟨_,rfl,hl⟩
 | none =>
  rw [Bc (c:=(none:Option (List api_Span)).isSome) rfl,hr,hrk,P2,hsp,show (api_Site.mk r.Site.Name r.Site.X r.Site.Y r.Site.Z r.Site.Rose r.Site.Gates r.Site.Step r.Site.Width)=r.Site from rfl,e,sbd];have:=Vx (F:=F) hs hsp hr hk hrk (V:=V) (by omega) F 0 [] (by omega) (by omega) (by simp);rw [List.drop_zero,List.nil_append,←eb] at this;refine ⟨_,this,?_⟩;intro w l hw;rw [Ng] at hw
  by_cases h:w=mosaic_where.mk k.Name k.Tilt
  ·rw [if_pos h] at hw;cases hw;rw [h]
  ·rw [if_neg h] at hw;exact hl _ _ hw
def Un (s:mosaic_Spec) (k:mosaic_Key):api_Span:=((lkM (radM s) k.Name).getD default).Offset
def H8 (s:mosaic_Spec) (N:mosaic_Node) (t:Int) (k:mosaic_Key):Bool:=decide ((kl N.kept k).length=1∧k.Time+(Un s k).Hi≤t∧t-k.Time-(Un s k).Lo≤s.Age)
def whK (k:mosaic_Key):mosaic_where:=⟨k.Name,k.Tilt⟩
def Pa (s:mosaic_Spec) (N:mosaic_Node) (t:Int) (B:List (mosaic_where×mosaic_Key)) (L:List mosaic_Key):List (mosaic_where×mosaic_Key):=L.foldl (fun B k=>if H8 s N t k then upM B (whK k) k else B) B
def Py (B:List (mosaic_where×mosaic_Key)) (k:mosaic_Key):Bool:=decide (lkM B (whK k)=some k)
def Fv (F:Nat) (s:mosaic_Spec) (N:mosaic_Node) (k:mosaic_Key):mosaic_used:=⟨k,((kl N.kept k)[0]?).getD [],G0 F s (whK k)⟩
theorem baE (a b:ByteArray):(a==b)=true↔a=b:=by
 obtain ⟨a⟩:=a;obtain ⟨b⟩:=b;constructor
 ·intro h;have:(a==b)=true:=h;rw [beq_iff_eq] at this;rw [this]
 ·intro h
  cases h
  exact (beq_self_eq_true a:_)
theorem Yx (x k:mosaic_Key):((x.Name==k.Name)&&(((x.Tilt:Int)==k.Tilt)&&(((x.Time:Int)==k.Time)&&true)))=decide (x=k):=by
 obtain ⟨n,t,u⟩:=x;obtain ⟨n',t',u'⟩:=k;dsimp only
 by_cases h:n=n'∧t=t'∧u=u'
 ·obtain ⟨rfl,rfl,rfl⟩:=h;rw [(baE n n).2 rfl];simp
 ·rw [dF (by simpa using h)]
  cases h1:(n==n') with
  | false=>rfl
  | true =>
   cases h2:(t==t') with
   | false=>rfl
   | true =>
    cases h3:(u==u') with
    | false=>rfl
    | true=>exact absurd ⟨(baE _ _).1 h1,by simpa using h2,by simpa using h3⟩ h
theorem Wt {F:Nat} {s:mosaic_Spec} {N:mosaic_Node} {B:List (mosaic_where×mosaic_Key)} {L:List mosaic_Key} (hF:1000≤F) (hs:GS F s) (h:NI F s N) (hL:∀k∈L,okK s k∧kl N.kept k≠[]) (hl:L.length≤10000) :
  ∀(n i:Nat) (lk:List (mosaic_where×List api_Span)) (acc:List mosaic_used),i≤L.length→L.length-i<n→acc.length≤i→LV F s lk →
   ∃lk',C4 F N B L n lk (i:Int) acc=some (acc++((L.drop i).filter (Py B)).map (Fv F s N),lk')∧LV F s lk':=by
 intro n
 induction n with
 | zero=>intro i lk acc _ h;omega
 | succ n ih =>
  intro i lk acc hi hn ha hlk;rw [C4];unfold Ej
  by_cases hc:i<L.length
  ·obtain ⟨hk,hne⟩:=hL _ (List.getElem_mem hc);rw [Cb (dT (by omega)),Dg i L[i] rfl (List.getElem?_eq_getElem hc),List.drop_eq_getElem_cons hc,Yx];have hx:decide ((lkM B (mosaic_where.mk L[i].Name L[i].Tilt)).getD (mosaic_Key.mk ByteArray.empty 0 0)=L[i])=Py B L[i]:=by
    unfold Py whK
    cases e:lkM B (mosaic_where.mk L[i].Name L[i].Tilt) with
    | some x=>rw [P2];congr 1;simp
    | none =>
     rw [dF,dF]
     ·simp
     ·intro e0;obtain ⟨r,hr⟩:=hk.1;have:(ByteArray.empty)=L[i].Name:=congrArg (·.Name) e0;exact (hs.r _ _ hr).2.2.2.1 this.symm
   rw [hx]
   cases hb:Py B L[i] with
   | true =>
    obtain ⟨lk',e,hlk'⟩:=Xk (N:=mosaic_Node.mk N.spec N.radars N.horizon N.kept N.count lk) hF hs h.spec h.radars hlk hk;obtain ⟨v,vs,hv⟩:=List.exists_cons_of_ne_nil hne;rw [cond_true,show (lkM N.kept L[i]).getD []=kl N.kept L[i] from rfl,Dg (l:=kl N.kept L[i]) (i:=0) 0 v rfl (by rw [hv];rfl),e,sbd,Mb (by simp;omega) (by decide)];unfold Cr;rw [ckb (by omega),List.filter_cons_of_pos (by exact hb)];obtain ⟨lk2,e2,h2⟩:=ih (i+1) lk' (acc++[Fv F s N L[i]]) (by omega) (by omega) (by simp;omega) hlk';refine ⟨lk2,?_,h2⟩;rw [List.append_assoc,List.singleton_append] at e2;have eu:mosaic_used.mk L[i] v (G0 F s ⟨L[i].Name,L[i].Tilt⟩)=Fv F s N L[i]:=by unfold Fv whK;rw [hv];rfl
    show C4 F N B L n lk' _ (acc++[mosaic_used.mk L[i] v (G0 F s ⟨L[i].Name,L[i].Tilt⟩)])=_;rw [eu];exact e2
   | false =>
    rw [cond_false];unfold Cr;rw [ckb (by omega),List.filter_cons_of_neg (by rw [hb];decide)];exact ih (i+1) lk acc (by omega) (by omega) (by omega) hlk
  ·rw [Bc (dF (by omega)),List.drop_eq_nil_of_le (by omega)];exact ⟨lk,by simp [El],hlk⟩
theorem Xo {F:Nat} {s:mosaic_Spec} {N:mosaic_Node} {t:Int} {L:List mosaic_Key} (hs:GS F s) (h:NI F s N) (ht:0≤t∧t≤1000000000000) (hL:∀k∈L,okK s k) (hl:L.length≤10000) :
  ∀(n i:Nat) (B:List (mosaic_where×mosaic_Key)),i≤L.length→L.length-i<n→C5 F N t L n B (i:Int)=Cq F N (Pa s N t B (L.drop i)):=by
 intro n
 induction n with
 | zero=>intro i B _ h;omega
 | succ n ih =>
  intro i B hi hn;rw [C5];unfold Ek
  by_cases hc:i<L.length
  ·have hk:=hL _ (List.getElem_mem hc);obtain ⟨r,hr⟩:=hk.1;obtain ⟨_,_,ho,_,_⟩:=hs.r _ _ hr;have htm:=hk.2.2;have hag:=hs.age;have eo:Un s L[i]=r.Offset:=by unfold Un;rw [hr];rfl
   rw [Cb (dT (by omega)),Dg i L[i] rfl (List.getElem?_eq_getElem hc),List.drop_eq_getElem_cons hc,h.radars,hr,P2,show (lkM N.kept L[i]).getD []=kl N.kept L[i] from rfl,h.spec];have fin:∀C,Cs (i:Int) (C5 F N t L n) C=Cq F N (Pa s N t C (L.drop (i+1))):=by
    intro C;unfold Cs;rw [ckb (by omega)];exact ih (i+1) C (by omega) (by omega)
   have step:Pa s N t B (L[i]::L.drop (i+1))=Pa s N t (if H8 s N t L[i] then upM B (whK L[i]) L[i] else B) (L.drop (i+1)):=rfl;rw [step]
   by_cases h1:(kl N.kept L[i]).length=1
   ·rw [h1,show (((1:Nat):Int)==1)=true from rfl,gdT (g:=(true==true&&true)) rfl,ckb (by omega)]
    by_cases h2:L[i].Time+r.Offset.Hi≤t
    ·rw [dT h2,gdT (g:=((bif true then true else false)==true&&true)) rfl,ckb (by omega),gdT (g:=((bif true then true else false)==true&&true)) rfl,ckb (by omega)]
     by_cases h3:t-L[i].Time-r.Offset.Lo≤s.Age
     ·rw [dT h3,Cb (c:=bif (bif true then true else false) then true else false) rfl,fin];have hf:H8 s N t L[i]=true:=by unfold H8;rw [eo];exact dT ⟨h1,h2,h3⟩
      rw [hf,if_pos rfl];rfl
     ·rw [dF h3,Bc (c:=bif (bif true then true else false) then false else false) rfl,fin];have hf:H8 s N t L[i]=false:=by unfold H8;rw [eo];exact dF fun x=>h3 x.2.2
      rw [hf];rfl
    ·rw [dF h2,gdF (g:=((bif true then false else false)==true&&true)) rfl,sbd,gdF (g:=((bif true then false else false)==true&&true)) rfl,sbd,Bc (c:=bif (bif true then false else false) then _ else false) rfl,fin];have hf:H8 s N t L[i]=false:=by unfold H8;rw [eo];exact dF fun x=>h2 x.2.1
     rw [hf];rfl
   ·have e1:((((kl N.kept L[i]).length:Nat):Int)==1)=false:=by
     have:¬(((kl N.kept L[i]).length:Nat):Int)=1:=by omega
     simpa using this
    rw [e1,gdF (g:=(false==true&&true)) rfl,sbd,gdF (g:=((bif false then _ else false)==true&&true)) rfl,sbd,gdF (g:=((bif false then _ else false)==true&&true)) rfl,sbd,Bc (c:=bif (bif false then _ else false) then _ else false) rfl,fin];have hf:H8 s N t L[i]=false:=by unfold H8;exact dF fun x=>h1 x.1
    rw [hf];rfl
  ·rw [Bc (dF (by omega)),List.drop_eq_nil_of_le (by omega)];rfl
def L0 (s:mosaic_Spec) (N:mosaic_Node) (t:Int):List mosaic_Key:=(ksN N).filter (Py (Pa s N t [] (ksN N)))
theorem Zt {F:Nat} {s:mosaic_Spec} {N:mosaic_Node} {t:Int} (hF:1000≤F) (hs:GS F s) (h:NI F s N) (hn:tot N.kept<900) (ht:0≤t∧t≤1000000000000) :
  ∃L,Eu F N t=some ((L0 s N t).map (Fv F s N),L)∧LV F s L:=by
 have h1:=h.small;have h2:=(Hw N).1;unfold Eu;rw [Qf (by omega),sbd];have e:=Xo (F:=F) (N:=N) (t:=t) (L:=ksN N) hs h ht (fun k hk=>(h.key hk).1) (by omega) F 0 [] (by omega) (by omega);rw [List.drop_zero] at e;obtain ⟨L,e2,hL⟩:=Wt (B:=Pa s N t [] (ksN N)) hF hs h (L:=ksN N) (fun k hk=>h.key hk) (by omega) F 0 N.looks [] (by omega) (by omega) (by simp) h.looks;rw [List.drop_zero,List.nil_append] at e2;refine ⟨L,?_,hL⟩;refine e.trans ?_;unfold Cq;rw [Qf (by omega),sbd];exact e2
theorem Xn {F:Nat} {s:mosaic_Spec} {N:mosaic_Node} {t:Int}:∀(L:List mosaic_Key) (B:List (mosaic_where×mosaic_Key)) (w:mosaic_where),L.Pairwise (fun x y=>¬KLt y x) →
  (∀k,lkM B w=some k→whK k=w∧∀k'∈L,¬KLt k' k) →
  (∀k,lkM (Pa s N t B L) w=some k→whK k=w∧(lkM B w=some k∨(k∈L∧H8 s N t k=true))∧∀k'∈L,H8 s N t k'=true→whK k'=w→¬KLt k k') ∧
  (lkM (Pa s N t B L) w=none→lkM B w=none∧∀k'∈L,H8 s N t k'=true→whK k'≠w):=by
 intro L
 induction L with
 | nil=>intro B w _ hB;exact ⟨fun k hk=>⟨(hB k hk).1,.inl hk,fun _ h=>by cases h⟩,fun hk=>⟨hk,fun _ h=>by cases h⟩⟩
 | cons x L ih =>
  intro B w hp hB;obtain ⟨hx,hp⟩:=List.pairwise_cons.1 hp;have e:Pa s N t B (x::L)=Pa s N t (if H8 s N t x then upM B (whK x) x else B) L:=rfl;rw [e]
  by_cases hf:H8 s N t x=true∧whK x=w
  ·obtain ⟨hf,hw⟩:=hf;have hlk:lkM (upM B (whK x) x) w=some x:=by rw [←hw,Xj]
   rw [hf,if_pos rfl];obtain ⟨i1,i2⟩:=ih (upM B (whK x) x) w hp (fun k hk=>by rw [hlk] at hk;cases hk;exact ⟨hw,hx⟩)
   constructor
   ·intro k hk;obtain ⟨a1,a2,a3⟩:=i1 k hk;refine ⟨a1,?_,?_⟩
    ·rcases a2 with a2|a2
     ·rw [hlk] at a2;cases a2;exact .inr ⟨.head _,hf⟩
     ·exact .inr ⟨.tail _ a2.1,a2.2⟩
    ·intro k' hk' hfk hwk;rcases List.mem_cons.1 hk' with rfl|hk'
     ·rcases a2 with a2|a2
      ·rw [hlk] at a2;cases a2;exact Qw _
      ·exact hx _ a2.1
     ·exact a3 k' hk' hfk hwk
   ·intro hk;have:=(i2 hk).1;rw [hlk] at this;cases this
  ·have hlk:lkM (if H8 s N t x then upM B (whK x) x else B) w=lkM B w:=by
    by_cases hfx:H8 s N t x=true
    ·rw [hfx,if_pos rfl,Ng,if_neg (fun e=>hf ⟨hfx,e.symm⟩)]
    ·rw [if_neg hfx]
   obtain ⟨i1,i2⟩:=ih (if H8 s N t x then upM B (whK x) x else B) w hp (fun k hk=>by rw [hlk] at hk;exact ⟨(hB k hk).1,fun k' hk'=>(hB k hk).2 k' (.tail _ hk')⟩);constructor
   ·intro k hk;obtain ⟨a1,a2,a3⟩:=i1 k hk;refine ⟨a1,?_,?_⟩
    ·rcases a2 with a2|a2
     ·rw [hlk] at a2;exact .inl a2
     ·exact .inr ⟨.tail _ a2.1,a2.2⟩
    ·intro k' hk' hfk hwk;rcases List.mem_cons.1 hk' with rfl|hk'
     ·exact absurd ⟨hfk,hwk⟩ hf
     ·exact a3 k' hk' hfk hwk
   ·intro hk;obtain ⟨b1,b2⟩:=i2 hk;rw [hlk] at b1;refine ⟨b1,fun k' hk' hfk hwk=>?_⟩;rcases List.mem_cons.1 hk' with rfl|hk'
    ·exact hf ⟨hfk,hwk⟩
    ·exact b2 k' hk' hfk hwk
theorem Rt {x y:mosaic_Key} (hw:whK x=whK y):KLt x y↔x.Time<y.Time:=by
 obtain ⟨n,t,u⟩:=x;obtain ⟨n',t',u'⟩:=y;simp only [whK,mosaic_where.mk.injEq] at hw;obtain ⟨rfl,rfl⟩:=hw;unfold KLt;constructor
 ·rintro (h|⟨_,h|⟨_,h⟩⟩)
  ·exact h
  ·exact absurd h (Lv _)
  ·exact absurd h (Int.lt_irrefl _)
 ·exact .inl
theorem Lb {s:mosaic_Spec} {N:mosaic_Node} {t:Int} {k:mosaic_Key}:k∈L0 s N t↔k∈ksN N∧H8 s N t k=true∧∀k'∈ksN N,H8 s N t k'=true→whK k'=whK k→k'.Time≤k.Time:=by
 have hn:=Xn (F:=0) (s:=s) (N:=N) (t:=t) (ksN N) [] (whK k) (Hw N).2.2 (fun k hk=>by cases hk)
 unfold L0;rw [List.mem_filter];unfold Py;rw [decide_eq_true_iff];constructor
 ·rintro ⟨h1,h2⟩;obtain ⟨_,a2,a3⟩:=hn.1 k h2;refine ⟨h1,?_,fun k' hk' hf hw=>?_⟩
  ·rcases a2 with a2|a2
   ·cases a2
   ·exact a2.2
  ·have:=a3 k' hk' hf hw;rw [Rt hw.symm] at this;omega
 ·rintro ⟨h1,h2,h3⟩;refine ⟨h1,?_⟩
  cases e:lkM (Pa s N t [] (ksN N)) (whK k) with
  | none=>exact absurd rfl ((hn.2 e).2 k h1 h2)
  | some x =>
   obtain ⟨a1,a2,a3⟩:=hn.1 x e;rcases a2 with a2|a2
   ·cases a2
   ·have b1:=h3 x a2.1 a2.2 a1;have b2:=a3 k h1 h2 rfl;rw [Rt a1] at b2
    congr 1
    obtain ⟨n,t,u⟩:=x;obtain ⟨n',t',u'⟩:=k;simp only [whK,mosaic_where.mk.injEq] at a1;obtain ⟨rfl,rfl⟩:=a1;have:u=u':=by
     simp only at b1 b2;omega
    rw [this]
end Go.Proofs.YtkbjbnkkfifbmaaGreat
namespace Go.Proofs.YtkbjbnkkfifbmaaGreat
open Go Go.RowKit Go.Eng
set_option maxRecDepth 10000
set_option linter.unusedVariables false
set_option linter.unusedSimpArgs false
structure C3 {α:Type} (c:α→α→Int):Prop where
 tr:∀x y z,c x y<0→c y z<0→c x z<0
 e1:∀x y z,c x y=0→c x z=c y z
 e2:∀x y z,c y z=0→c x y=c x z
 rf:∀x,c x x=0
 ay:∀x y,c x y<0∨c x y=0∨c y x<0
def P4 {α:Type} (c d:α→α→Int) (x y:α):Int:=if c x y≠0 then c x y else d x y
theorem Nr {α:Type} {c d:α→α→Int} (hc:C3 c) (hd:C3 d):C3 (P4 c d):=by
 refine ⟨fun x y z=>?_,fun x y z=>?_,fun x y z=>?_,fun x=>?_,fun x y=>?_⟩
 ·unfold P4;intro h1 h2
  by_cases a:c x y=0
  ·rw [if_neg (by simpa using a)] at h1;have e:=hc.e1 x y z a;rw [e]
   by_cases b:c y z=0
   ·rw [if_neg (by simpa using b)] at h2 ⊢;exact hd.tr x y z h1 h2
   ·rw [if_pos b] at h2 ⊢;exact h2
  ·rw [if_pos a] at h1
   by_cases b:c y z=0
   ·have e:=hc.e2 x y z b;rw [←e,if_pos a];exact h1
   ·rw [if_pos b] at h2;have:=hc.tr x y z h1 h2;rw [if_pos (by omega)];exact this
 ·unfold P4;intro h1
  by_cases a:c x y=0
  ·rw [if_neg (by simpa using a)] at h1;rw [hc.e1 x y z a,hd.e1 x y z h1]
  ·rw [if_pos a] at h1;exact absurd h1 a
 ·unfold P4;intro h1
  by_cases a:c y z=0
  ·rw [if_neg (by simpa using a)] at h1;rw [hc.e2 x y z a,hd.e2 x y z h1]
  ·rw [if_pos a] at h1;exact absurd h1 a
 ·unfold P4;rw [if_neg (by simpa using hc.rf x),hd.rf]
 ·unfold P4;rcases hc.ay x y with h|h|h
  ·left;rw [if_pos (by omega)];exact h
  ·rw [if_neg (by simpa using h)];have h':c y x=0:=by have:=hc.e1 x y x h;rw [hc.rf] at this;exact this.symm
   rw [if_neg (by simpa using h')];exact hd.ay x y
  ·right;right;rw [if_pos (by omega)];exact h
theorem Vc {α:Type} (f:α→Int):C3 (fun x y=>c3 (f x) (f y)):=by
 refine ⟨fun x y z=>?_,fun x y z=>?_,fun x y z=>?_,fun x=>?_,fun x y=>?_⟩<;>unfold c3<;>(repeat' split)<;>omega
theorem Yq {α:Type} (f:α→Int):C3 (fun x y=>c3 (f y) (f x)):=by
 refine ⟨fun x y z=>?_,fun x y z=>?_,fun x y z=>?_,fun x=>?_,fun x y=>?_⟩<;>unfold c3<;>(repeat' split)<;>omega
theorem K6 {a b:ByteArray}:c3s a b<0↔a.toList<b.toList:=by
 unfold c3s
 by_cases h:Na a b=true
 ·rw [if_pos h];exact ⟨fun _=>(Jv a b).1 h,fun _=>by decide⟩
 ·rw [if_neg h];refine ⟨fun h2=>?_,fun h2=>absurd ((Jv a b).2 h2) h⟩
  split at h2<;>simp at h2
theorem Kn {a b:ByteArray}:c3s a b=0↔a.toList=b.toList:=by
 unfold c3s
 by_cases h:Na a b=true
 ·rw [if_pos h];refine ⟨fun h2=>by simp at h2,fun h2=>?_⟩;have:=(Jv a b).1 h;rw [h2] at this;exact absurd this (Lv _)
 ·rw [if_neg h]
  by_cases g:Mt a b=true
  ·rw [if_pos g];exact ⟨fun h2=>by simp at h2,fun h2=>absurd h2 ((Mu a b).1 g).2⟩
  ·rw [if_neg g];refine ⟨fun _=>?_,fun _=>rfl⟩;refine Decidable.by_contra fun hn=>g ((Mu a b).2 ⟨fun hl=>h ((Jv a b).2 hl),hn⟩)
theorem Rg {a b c d:ByteArray} (h:a.toList=b.toList) (k:c.toList=d.toList):c3s a c=c3s b d:=by
 rcases Sw a.toList c.toList with e|e|e
 ·have h1:c3s a c<0:=K6.2 e;have h2:c3s b d<0:=K6.2 (by rw [←h,←k];exact e);unfold c3s at *
  split at h1<;>(try split at h1)<;>split at h2<;>(try split at h2)<;>simp_all
 ·rw [Kn.2 e,Kn.2 (by rw [←h,←k];exact e)]
 ·have h1:¬c3s a c<0:=fun x=>absurd (Tu e (K6.1 x)) (Lv _);have h1':c3s a c≠0:=fun x=>by rw [Kn.1 x] at e;exact Lv _ e
  have h2:¬c3s b d<0:=fun x=>by have:=K6.1 x;rw [←h,←k] at this;exact absurd (Tu e this) (Lv _)
  have h2':c3s b d≠0:=fun x=>by have:=Kn.1 x;rw [←h,←k] at this;rw [this] at e;exact Lv _ e
  unfold c3s at *
  split at h1<;>(try split at h1)<;>split at h2<;>(try split at h2)<;>simp_all
theorem Yr {α:Type} (f:α→ByteArray):C3 (fun x y=>c3s (f x) (f y)):=by
 refine ⟨fun x y z h1 h2=>K6.2 (Tu (K6.1 h1) (K6.1 h2)),fun x y z h=>Rg (Kn.1 h) rfl,fun x y z h=>Rg rfl (Kn.1 h),fun x=>Kn.2 rfl,fun x y=>?_⟩;rcases Sw (f x).toList (f y).toList with e|e|e
 ·exact .inl (K6.2 e)
 ·exact .inr (.inl (Kn.2 e))
 ·exact .inr (.inr (K6.2 e))
abbrev BK:=api_Span×mosaic_Key
def Rf (x y:BK):Int:=orL [c3 x.1.Hi y.1.Hi,c3 x.1.Lo y.1.Lo,c3 y.2.Time x.2.Time,c3s x.2.Name y.2.Name,c3 x.2.Tilt y.2.Tilt]
theorem X1:Rf=P4 (fun x y=>c3 x.1.Hi y.1.Hi) (P4 (fun x y=>c3 x.1.Lo y.1.Lo) (P4 (fun x y=>c3 y.2.Time x.2.Time) (P4 (fun x y=>c3s x.2.Name y.2.Name) (fun x y=>c3 x.2.Tilt y.2.Tilt)))):=by
 funext x y
 unfold Rf P4;show (if _ then _ else if _ then _ else if _ then _ else if _ then _ else if c3 x.2.Tilt y.2.Tilt≠0 then c3 x.2.Tilt y.2.Tilt else 0)=_;have:(if c3 x.2.Tilt y.2.Tilt≠0 then c3 x.2.Tilt y.2.Tilt else 0)=c3 x.2.Tilt y.2.Tilt:=by split<;>omega
 rw [this]
theorem betC_ok:C3 Rf:=by
 rw [X1];exact Nr (Vc fun x:BK=>x.1.Hi) (Nr (Vc fun x:BK=>x.1.Lo) (Nr (Yq fun x:BK=>x.2.Time) (Nr (Yr fun x:BK=>x.2.Name) (Vc fun x:BK=>x.2.Tilt))))
theorem X2 {x y:BK} (h:x.1.Hi<y.1.Hi):Rf x y<0:=by
 have e:c3 x.1.Hi y.1.Hi=-1:=by unfold c3;rw [if_pos h]
 show orL (c3 x.1.Hi y.1.Hi::_)<0;rw [e];show (if (-1:Int)≠0 then (-1:Int) else _)<0;rw [if_pos (by decide)]
 decide
theorem U6 (a b:ByteArray):B4 a b=c3s a b:=by
 unfold B4 B7;have:∀c:ByteArray,sEq c c=true:=fun c=>by unfold sEq;simp
 rw [this,this,Bc (c:=!true) rfl,Bc (c:=!true) rfl];unfold c3s
 cases Na a b with
 | true=>rfl
 | false=>cases Mt a b<;>rfl
def Nt (l:List mosaic_used) (p:Nat) (x:mosaic_Pixel):Prop :=
 (x=⟨⟨0,1000000⟩,⟨ByteArray.empty,0,0⟩⟩∧∀u∈l,∀b,u.bands[p]? = some b→¬b.Lo≤b.Hi) ∨
 ∃u∈l,∃b v,u.bands[p]? = some b∧b.Lo≤b.Hi∧u.vals[p]? = some v∧x=⟨v,u.Key⟩∧∀u'∈l,∀b',u'.bands[p]? = some b'→b'.Lo≤b'.Hi→¬Rf (b',u'.Key) (b,u.Key)<0
def Nn (l:List mosaic_used) (p i:Nat) (q:Int):Prop :=
 (q=-1∧∀j u b,j<i→l[j]? = some u→u.bands[p]? = some b→¬b.Lo≤b.Hi) ∨
 ∃(m:Nat) (u:mosaic_used) (b:api_Span),q=m∧m<i∧l[m]? = some u∧u.bands[p]? = some b∧b.Lo≤b.Hi∧∀j u' b',j<i→l[j]? = some u'→u'.bands[p]? = some b'→b'.Lo≤b'.Hi→¬Rf (b',u'.Key) (b,u.Key)<0
abbrev YU:=List mosaic_used×List (mosaic_where×List api_Span)
theorem V9 {F P:Nat} {Y:YU} {p:Nat} {acc:List mosaic_Pixel} {k2:Int→List mosaic_Pixel→Option (List mosaic_Pixel×Int×List (mosaic_where×List api_Span))} (hF:100≤F) (hY:∀u∈Y.1,u.bands.length=P∧u.vals.length=P) (hp:p<P) (hl:Y.1.length≤10000) :
  ∀(n i:Nat) (q:Int),i≤Y.1.length→Y.1.length-i<n→Nn Y.1 p i q→∃q',Bk F Y p acc k2 n q (i:Int)=Bt Y p acc k2 q'∧Nn Y.1 p Y.1.length q':=by
 intro n
 induction n with
 | zero=>intro i q _ h;omega
 | succ n ih =>
  intro i q hi hn hq;rw [Bk];unfold Dz
  by_cases hc:i<Y.1.length
  ·have hu:=hY _ (List.getElem_mem hc);have hgu:=List.getElem?_eq_getElem hc;obtain ⟨u,hue⟩:∃u,u=Y.1[i]:=⟨_,rfl⟩;rw [←hue] at hu hgu;obtain ⟨b,hb⟩:∃b,u.bands[p]? = some b:=⟨_,List.getElem?_eq_getElem (show p<u.bands.length by omega)⟩;rw [Cb (dT (by omega)),Dg i u rfl hgu,Dg p b rfl hb];have fin:∀q',Nn Y.1 p (i+1) q'→∃q2,Bj (i:Int) (Bk F Y p acc k2 n) q'=Bt Y p acc k2 q2∧Nn Y.1 p Y.1.length q2:=by
    intro q' hq';unfold Bj;rw [ckb (by omega)];exact ih (i+1) q' (by omega) (by omega) hq'
   have one:∀j u',j<i+1→Y.1[j]? = some u'→j<i∨(j=i∧u'=u):=by
    intro j u' hj hg
    by_cases h:j<i
    ·exact .inl h
    ·have:j=i:=by omega
     subst this;rw [hgu] at hg;cases hg
     exact .inr ⟨rfl,rfl⟩
   unfold Ha
   by_cases hs:b.Lo≤b.Hi
   ·rw [Bc (by rw [dT hs];rfl)];rcases hq with ⟨rfl,h0⟩|⟨m,v,b2,rfl,hm,hv,hb2,hs2,h0⟩
    ·rw [Cb (dT (by omega))];refine fin _ (.inr ⟨i,u,b,rfl,by omega,hgu,hb,hs,?_⟩);intro j u' b' hj hg hb' hs';rcases one j u' hj hg with h|⟨rfl,rfl⟩
     ·exact absurd hs' (h0 j u' b' h hg hb')
     ·rw [hb] at hb';cases hb'
      rw [betC_ok.rf];omega
    ·rw [Bc (dF (by omega)),Dg m v rfl hv,Dg p b rfl hb,Dg p b2 rfl hb2,Dg p b rfl hb,Dg p b2 rfl hb2,Gn,Gn,Gn,Gn,U6,Yc _ (by simp;omega) (by simp),sbd,
      show orL [c3 b.Hi b2.Hi,c3 b.Lo b2.Lo,c3 v.Key.Time u.Key.Time,c3s u.Key.Name v.Key.Name,c3 u.Key.Tilt v.Key.Tilt]=Rf (b,u.Key) (b2,v.Key) from rfl]
     by_cases hlt:Rf (b,u.Key) (b2,v.Key)<0
     ·rw [Cb (dT hlt)];refine fin _ (.inr ⟨i,u,b,rfl,by omega,hgu,hb,hs,?_⟩);intro j u' b' hj hg hb' hs' hbt;rcases one j u' hj hg with h|⟨rfl,rfl⟩
      ·exact h0 j u' b' h hg hb' hs' (betC_ok.tr _ _ _ hbt hlt)
      ·rw [hb] at hb';cases hb'
       rw [betC_ok.rf] at hbt;omega
     ·rw [Bc (dF hlt)];refine fin _ (.inr ⟨m,v,b2,rfl,by omega,hv,hb2,hs2,?_⟩);intro j u' b' hj hg hb' hs';rcases one j u' hj hg with h|⟨rfl,rfl⟩
      ·exact h0 j u' b' h hg hb' hs'
      ·rw [hb] at hb';cases hb'
       exact hlt
   ·rw [Cb (by rw [dF hs];rfl)];refine fin q ?_;rcases hq with ⟨rfl,h0⟩|⟨m,v,b2,rfl,hm,hv,hb2,hs2,h0⟩
    ·refine .inl ⟨rfl,fun j u' b' hj hg hb'=>?_⟩;rcases one j u' hj hg with h|⟨rfl,rfl⟩
     ·exact h0 j u' b' h hg hb'
     ·rw [hb] at hb';cases hb';exact hs
    ·refine .inr ⟨m,v,b2,rfl,by omega,hv,hb2,hs2,fun j u' b' hj hg hb' hs'=>?_⟩;rcases one j u' hj hg with h|⟨rfl,rfl⟩
     ·exact h0 j u' b' h hg hb' hs'
     ·rw [hb] at hb';cases hb';exact absurd hs' hs
  ·rw [Bc (dF (by omega))];have:i=Y.1.length:=by omega
   subst this;exact ⟨q,rfl,hq⟩
theorem Xm {F P:Nat} {Y:YU} (hF:100≤F) (hY:∀u∈Y.1,u.bands.length=P∧u.vals.length=P) (hl:Y.1.length<F) (hl2:Y.1.length≤10000) (hP:P≤10000) :
  ∀(n p:Nat) (acc:List mosaic_Pixel),p≤P→P-p<n→acc.length=p→(∀j x,acc[j]? = some x→Nt Y.1 j x)→∃out,B0 F Y (P:Int) n (p:Int) acc=some (out,0,Y.2)∧out.length=P∧∀j x,out[j]? = some x→Nt Y.1 j x:=by
 intro n
 induction n with
 | zero=>intro p acc _ h;omega
 | succ n ih =>
  intro p acc hp hn ha hx;rw [B0];unfold Dy
  by_cases hc:p<P
  ·rw [Cb (dT (by omega))];obtain ⟨q,e,hq⟩:=V9 (F:=F) (P:=P) (Y:=Y) (p:=p) (acc:=acc) (k2:=B0 F Y (P:Int) n) hF hY hc hl2 F 0 (-1) (by omega) (by omega) (.inl ⟨rfl,fun j u b h=>by omega⟩);have e':Bk F Y (p:Int) acc (B0 F Y (P:Int) n) F (-1) 0=Bt Y p acc (B0 F Y (P:Int) n) q:=e;rw [e'];have fin:∀x:mosaic_Pixel,Nt Y.1 p x→∃out,Cf (p:Int) acc (B0 F Y (P:Int) n) x.Value_.Lo x.Value_.Hi x.Key.Name x.Key.Tilt x.Key.Time=some (out,0,Y.2)∧out.length=P∧∀j x,out[j]? = some x→Nt Y.1 j x:=by
    intro x hpx;unfold Cf E2;rw [Mb (by simp;omega) (by decide),ckb (by omega)];refine ih (p+1) (acc++[x]) (by omega) (by omega) (by simp;omega) (fun j y hj=>?_)
    by_cases h:j<acc.length
    ·rw [List.getElem?_append_left h] at hj;exact hx j y hj
    ·rw [List.getElem?_append_right (by omega)] at hj;have:j=p:=by
      have:=(List.getElem?_eq_some_iff.1 hj).1;simp at this;omega
     subst this;rw [ha,Nat.sub_self] at hj
     cases hj;exact hpx
   unfold Bt;rcases hq with ⟨rfl,h0⟩|⟨m,u,b,rfl,hm,hu,hb,hs,h0⟩
   ·rw [Cb (dT (by omega))];refine fin ⟨⟨0,1000000⟩,⟨ByteArray.empty,0,0⟩⟩ (.inl ⟨rfl,fun u hu b hb=>?_⟩);obtain ⟨j,hj,rfl⟩:=List.mem_iff_getElem.1 hu;exact h0 j _ b hj (List.getElem?_eq_getElem hj) hb
   ·have hum:=List.mem_of_getElem? hu;obtain ⟨_,hvl⟩:=hY u hum;obtain ⟨v,hv⟩:∃v,u.vals[p]? = some v:=⟨_,List.getElem?_eq_getElem (by omega)⟩;rw [Bc (dF (by omega)),Dg m u rfl hu,Dg p v rfl hv];refine fin ⟨v,u.Key⟩ (.inr ⟨u,hum,b,v,hb,hs,hv,rfl,fun u' hu' b' hb' hs'=>?_⟩);obtain ⟨j,hj,rfl⟩:=List.mem_iff_getElem.1 hu';exact h0 j _ b' hj (List.getElem?_eq_getElem hj) hb' hs'
  ·rw [Bc (dF (by omega))];unfold E0;exact ⟨acc,rfl,by omega,hx⟩
theorem V6 {F:Nat} {N:mosaic_Node} {t:Int} (h0:0≤t∧t≤4294967296) (hh:N.horizon≤t):D5 F N t=some 0:=by
 unfold D5 C8;rw [sbd,cond_false,L9 h0,Bc (c:=!true) rfl,Bc (dF (by omega))]
theorem Wu {F:Nat} {s:mosaic_Spec} {N:mosaic_Node} {t:Int} (hF:1000≤F) (hs:GS F s) (h:NI F s N):∀u∈(L0 s N t).map (Fv F s N),u.bands.length=pix s∧u.vals.length=pix s:=by
 intro u hu;obtain ⟨k,hk,rfl⟩:=List.mem_map.1 hu;have hk2:=(Lb.1 hk).1;obtain ⟨h1,h2⟩:=h.key hk2;refine ⟨Sg (by omega) hs h1,?_⟩;obtain ⟨v,vs,hv⟩:=List.exists_cons_of_ne_nil h2;show (((kl N.kept k)[0]?).getD []).length=_;rw [hv];exact h.kl_ok k v (by rw [hv];exact .head _)
theorem Yl {F:Nat} {s:mosaic_Spec} {N:mosaic_Node} {t:Int} (hF:1000≤F) (hs:GS F s) (h:NI F s N) (hn:tot N.kept<900) (ht:0≤t∧t≤4294967296) (hh:N.horizon≤t) :
  ∃out L,D3 F N t=some (out,0,L)∧LV F s L∧out.length=pix s∧∀p x,out[p]? = some x→Nt ((L0 s N t).map (Fv F s N)) p x:=by
 obtain ⟨L,e,hL⟩:=Zt (t:=t) hF hs h hn (by omega);have hp:=Wi hs;have hsm:=hs.small;have hul:((L0 s N t).map (Fv F s N)).length≤tot N.kept:=by
  rw [List.length_map];exact Nat.le_trans (List.length_filter_le _ _) h.small
 obtain ⟨out,e2,h1,h2⟩:=Xm (F:=F) (P:=pix s) (Y:=((L0 s N t).map (Fv F s N),L)) (by omega) (Wu hF hs h) (by show ((L0 s N t).map (Fv F s N)).length<F;omega) (by show ((L0 s N t).map (Fv F s N)).length≤10000;omega) (by omega) F 0 [] (by omega) (by omega) rfl (fun j x hj=>by simp at hj);refine ⟨out,L,?_,hL,h1,h2⟩;unfold D3;rw [V6 ht hh,sbd,Bc (c:=(0:Int) != 0) rfl,e,sbd,h.spec,hp.1,ckb (by omega)];exact e2
end Go.Proofs.YtkbjbnkkfifbmaaGreat
namespace Go.Proofs.YtkbjbnkkfifbmaaGreat
open Go Go.RowKit Go.Eng
set_option maxRecDepth 10000
set_option linter.unusedVariables false
set_option linter.unusedSimpArgs false
theorem Fe {β:Type} {x y:Int} {f:Int→Option β} (h:y≠0):(Dh x y).bind f=f (x.tmod y):=by unfold Dh;rw [if_neg h];rfl
theorem Xv (a b:ByteArray):sEq a b=decide (a=b):=by
 unfold sEq;obtain ⟨a⟩:=a;obtain ⟨b⟩:=b
 by_cases h:a=b
 ·subst h;simp
 ·rw [dF,dF]
  ·intro e;cases e;exact h rfl
  ·intro e;exact h (Array.toList_inj.1 e)
structure RG (F:Nat) (s:mosaic_Spec):Prop where
 g:VG s.Grid
 e:VE s.Earth
 age:1≤s.Age∧s.Age≤86400
 small:pix s≤500
 len:1≤s.Radars.length∧s.Radars.length≤32
 nd:(s.Radars.map (·.Site.Name)).Nodup
 ok:∀r∈s.Radars,VS r.Site∧beam_CheckSite F r.Site=some 0∧(-3600≤r.Offset.Lo∧r.Offset.Lo≤r.Offset.Hi∧r.Offset.Hi≤3600)∧r.Site.Name≠ByteArray.empty
def Tp (B:List (ByteArray×mosaic_Radar)) (l:List mosaic_Radar):List (ByteArray×mosaic_Radar):=l.foldl (fun B r=>upM B r.Site.Name r) B
theorem Vn:∀(l:List mosaic_Radar) (B:List (ByteArray×mosaic_Radar)) (n:ByteArray),(l.map (·.Site.Name)).Nodup→lkM (Tp B l) n=match l.find? (fun r=>r.Site.Name=n) with|some r=>some r|none=>lkM B n:=by
 intro l
 induction l with
 | nil=>intro B n _;rfl
 | cons x l ih =>
  intro B n hn;rw [List.map_cons,List.nodup_cons] at hn;have e:Tp B (x::l)=Tp (upM B x.Site.Name x) l:=rfl;rw [e,ih _ _ hn.2,List.find?_cons]
  by_cases h:x.Site.Name=n
  ·have hnone:l.find? (fun r=>r.Site.Name=n)=none:=by
    rw [List.find?_eq_none];intro r hr hrn;have hrn:r.Site.Name=n:=by simpa using hrn
    exact hn.1 (by rw [h,←hrn];exact List.mem_map_of_mem (f:=(·.Site.Name)) hr)
   rw [hnone,Ng,if_pos h.symm];simp [h]
  ·rw [Ng,if_neg (fun e=>h e.symm)];simp [h]
theorem Ju {F:Nat} {s:mosaic_Spec} (h:RG F s) (n:ByteArray):lkM (radM s) n=s.Radars.find? (fun r=>r.Site.Name=n):=by
 have:=Vn s.Radars [] n h.nd;unfold radM;refine this.trans ?_
 cases s.Radars.find? (fun r=>r.Site.Name=n)<;>rfl
theorem RG.gs {F:Nat} {s:mosaic_Spec} (h:RG F s):GS F s:=by
 refine ⟨h.g,h.e,h.age,h.small,fun n x hx=>?_⟩;rw [Ju h] at hx;have h1:=List.mem_of_find?_eq_some hx;have h2:x.Site.Name=n:=by simpa using List.find?_some hx
 obtain ⟨a,b,c,d⟩:=h.ok x h1;exact ⟨a,b,c,h2▸d,h2⟩
theorem RG.lk {F:Nat} {s:mosaic_Spec} (h:RG F s) {r:mosaic_Radar} (hr:r∈s.Radars):lkM (radM s) r.Site.Name=some r:=by
 rw [Ju h]
 cases e:s.Radars.find? (fun x=>x.Site.Name=r.Site.Name) with
 | none =>
  rw [List.find?_eq_none] at e;exact absurd (by simp) (e r hr)
 | some x =>
  have h1:=List.mem_of_find?_eq_some e;have h2:x.Site.Name=r.Site.Name:=by simpa using List.find?_some e
  obtain ⟨i,hi,rfl⟩:=List.mem_iff_getElem.1 h1;obtain ⟨j,hj,rfl⟩:=List.mem_iff_getElem.1 hr;have:=List.pairwise_iff_getElem.1 h.nd;rcases Nat.lt_trichotomy i j with hij|hij|hij
  ·exact absurd (by rw [List.getElem_map,List.getElem_map];exact h2) (this i j (by simpa using hi) (by simpa using hj) hij)
  ·subst hij;rfl
  ·exact absurd (by rw [List.getElem_map,List.getElem_map];exact h2.symm) (this j i (by simpa using hj) (by simpa using hi) hij)
def Si (s:mosaic_Spec):mosaic_Node:=⟨s,radM s,0,[],0,[]⟩
theorem U7 {F:Nat} {s:mosaic_Spec}:NI F s (Si s):=by
 refine ⟨rfl,rfl,.nil,?_,rfl,?_⟩
 ·intro p hp;cases hp
 ·intro w l h;cases h
theorem U5 {F:Nat} {s:mosaic_Spec} (h:RG F s):∀(n i:Nat) (B:List (ByteArray×Bool)),i≤s.Radars.length→s.Radars.length-i<n→(∀m b,lkM B m=some b→m∈(s.Radars.take i).map (·.Site.Name))→Dk F s n B (i:Int)=some 0:=by
 have hl:=h.len;intro n
 induction n with
 | zero=>intro i B _ h;omega
 | succ n ih =>
  intro i B hi hn hB;rw [Dk];unfold Fz
  by_cases hc:i<s.Radars.length
  ·obtain ⟨a,b,c,d⟩:=h.ok _ (List.getElem_mem hc);have hnew:lkM B s.Radars[i].Site.Name=none:=by
    cases e:lkM B s.Radars[i].Site.Name with
    | none=>rfl
    | some b =>
     have:=hB _ _ e;rw [List.map_take] at this;obtain ⟨j,hj,hje⟩:=List.mem_take_iff_getElem.1 this;have hp:=List.pairwise_iff_getElem.1 h.nd j i (by simp at hj ⊢;omega) (by simpa using hc) (by omega);exact absurd (by rw [hje];simp) hp
   rw [Cb (dT (by omega)),Dg i s.Radars[i] rfl (List.getElem?_eq_getElem hc),b,sbd,Bc (c:=(0:Int) != 0) rfl,hnew,Bc (c:=(none:Option Bool).getD false) rfl,P3 c,Bc (c:=!true) rfl,ckb (by omega)];refine ih (i+1) _ (by omega) (by omega) (fun m b hm=>?_);rw [Ng] at hm;rw [List.take_succ_eq_append_getElem hc,List.map_append,List.mem_append]
   by_cases e:m=s.Radars[i].Site.Name
   ·exact .inr (by simp [e])
   ·rw [if_neg e] at hm;exact .inl (hB _ _ hm)
  ·rw [Bc (dF (by omega))];rfl
theorem Uz {F:Nat} {s:mosaic_Spec} (hF:100≤F) (h:RG F s):Gh F s=some 0:=by
 have hl:=h.len;unfold Gh;rw [M7 h.g,Bc (c:=(0:Int) != 0) rfl,P3 h.e,L9 h.age,Bc (c:=bif !true then true else !true) rfl,Bc (by
  have:¬((s.Radars.length:Nat):Int)=0:=by omega
  simpa using this),Bc (dF (by omega))]
 exact U5 h F 0 [] (by omega) (by omega) (fun m b hm=>by cases hm)
theorem Wb {F:Nat} {s:mosaic_Spec} {R:List mosaic_Radar} (hR:R.length≤1000):∀(n i:Nat) (B:List (ByteArray×mosaic_Radar)),i≤R.length→R.length-i<n→Ez s R n B (i:Int)=some (.ok (⟨⟨s.Grid,s.Earth,R,s.Age⟩,Tp B (R.drop i),0,[],0,[]⟩,0)):=by
 intro n
 induction n with
 | zero=>intro i B _ h;omega
 | succ n ih =>
  intro i B hi hn;rw [Ez];unfold H6
  by_cases hc:i<R.length
  ·rw [Cb (dT (by omega)),Dg i R[i] rfl (List.getElem?_eq_getElem hc),ckb (by omega),List.drop_eq_getElem_cons hc];exact ih (i+1) _ (by omega) (by omega)
  ·rw [Bc (dF (by omega)),List.drop_eq_nil_of_le (by omega)];rfl
theorem Ym {F:Nat} {s:mosaic_Spec} (hF:100≤F) (h:RG F s):Gv F s=some (.ok (Si s,0)):=by
 have hl:=h.len;unfold Gv Aw;rw [Uz hF h,sbd,Bc (c:=(0:Int) != 0) rfl,Mb (by simp;omega) (by decide),List.nil_append,sbd];exact Wb (F:=F) (by omega) F 0 [] (by omega) (by omega)
theorem Vk {F:Nat} {s:mosaic_Spec} {k:mosaic_Key} {t:Int} {r:mosaic_Radar} (h:RG F s) (hr:lkM (radM s) k.Name=some r) (hk:0≤k.Time∧k.Time≤4294967296) :
  ∀(n i:Nat),(s.Radars.drop i).find? (fun x=>x.Site.Name=k.Name)=some r→i≤s.Radars.length→s.Radars.length-i<n→Ey s k t n (i:Int)=some (decide (k.Time+r.Offset.Hi≤t∧t≤k.Time+r.Offset.Lo+s.Age)):=by
 have hl:=h.len;have ha:=h.age;obtain ⟨_,_,ho,_,_⟩:=h.gs.r _ _ hr;intro n
 induction n with
 | zero=>intro i _ _ h;omega
 | succ n ih =>
  intro i hf hi hn;rw [Ey];unfold H4
  by_cases hc:i<s.Radars.length
  ·rw [List.drop_eq_getElem_cons hc,List.find?_cons] at hf;rw [Cb (dT (by omega)),Dg i s.Radars[i] rfl (List.getElem?_eq_getElem hc),Xv]
   by_cases e:s.Radars[i].Site.Name=k.Name
   ·rw [Cb (dT e)];simp only [e,decide_true,Option.some.injEq] at hf;rw [hf,ckb (by omega)]
    by_cases h1:k.Time+r.Offset.Hi≤t
    ·rw [dT h1,gdT (g:=(true==true&&true)) rfl,ckb (by omega),gdT (g:=(true==true&&true)) rfl,ckb (by omega)];rw [Cb (c:=true) rfl]
     by_cases h2:t≤k.Time+r.Offset.Lo+s.Age
     ·rw [dT h2,dT ⟨h1,h2⟩]
     ·rw [dF h2,dF (fun x=>h2 x.2)]
    ·rw [dF h1,gdF (g:=(false==true&&true)) rfl,sbd,gdF (g:=(false==true&&true)) rfl,sbd,Bc (c:=false) rfl,dF (fun x=>h1 x.1)]
   ·rw [Bc (dF e),ckb (by omega)];simp only [e,decide_false] at hf;exact ih (i+1) hf (by omega) (by omega)
  ·rw [List.drop_eq_nil_of_le (by omega)] at hf;cases hf
theorem Xb {F:Nat} {s:mosaic_Spec} {k:mosaic_Key} {t:Int} {r:mosaic_Radar} (hF:100≤F) (h:RG F s) (hr:lkM (radM s) k.Name=some r) (hk:0≤k.Time∧k.Time≤4294967296):K9 F s k t=some (decide (k.Time+r.Offset.Hi≤t∧t≤k.Time+r.Offset.Lo+s.Age)):=by
 have hl:=h.len;have hf:=hr;rw [Ju h] at hf;exact Vk h hr hk F 0 (by rw [List.drop_zero];exact hf) (by omega) (by omega)
theorem V7 {F:Nat} {s:mosaic_Spec} {k:mosaic_Key} {r:mosaic_Radar} {p:Nat} {v:Int} {V:List Int} (h:RG F s) (hr:lkM (radM s) k.Name=some r) (hk:okK s k) (hV:Fi F r.Site k.Tilt s.Grid=some (V,0)) (hp:V[p]? = some v) :
  ∀(n i:Nat),(s.Radars.drop i).find? (fun x=>x.Site.Name=k.Name)=some r→i≤s.Radars.length→s.Radars.length-i<n→D0 F s k (p:Int) n (i:Int)=some (if v<0 then (⟨0,0⟩,false) else (Jl s k.Tilt r v,true)):=by
 have hl:=h.len;obtain ⟨hvs,hcs,_,_,_⟩:=h.gs.r _ _ hr;have hg:=hvs.gates;have hpl:=(List.getElem?_eq_some_iff.1 hp).1;intro n
 induction n with
 | zero=>intro i _ _ h;omega
 | succ n ih =>
  intro i hf hi hn;rw [D0];unfold Fw
  by_cases hc:i<s.Radars.length
  ·rw [List.drop_eq_getElem_cons hc,List.find?_cons] at hf;rw [Cb (dT (by omega)),Dg i s.Radars[i] rfl (List.getElem?_eq_getElem hc),Xv]
   by_cases e:s.Radars[i].Site.Name=k.Name
   ·simp only [e,decide_true,Option.some.injEq] at hf;rw [dT e,Bc (c:=!true) rfl,hf,hV,sbd];rw [show ((V,(0:Int)).2 != 0)=false from rfl,show (V,(0:Int)).1=V from rfl,dF (show ¬(p:Int)≥((V.length:Nat):Int) by omega),gdT (g:=((bif false then true else false)==false&&true)) rfl,Dg p v rfl hp]
    by_cases hv:v<0
    ·rw [dT hv,Cb (c:=bif (bif false then true else false) then true else true) rfl,if_pos hv]
    ·have h0:=Int.tmod_nonneg r.Site.Gates (show 0≤v by omega);have h1:=Int.tmod_lt_of_pos v (show 0<r.Site.Gates by omega);rw [dF hv,Bc (c:=bif (bif false then true else false) then true else false) rfl,Dg p v rfl hp,Fe (by omega),Tg hcs hvs h.e hk.2.1 ⟨h0,h1⟩,sbd,if_neg hv];unfold Jl;rw [if_pos (by omega)];rfl
   ·simp only [e,decide_false] at hf;rw [dF e,Cb (c:=!false) rfl,ckb (by omega)];exact ih (i+1) hf (by omega) (by omega)
  ·rw [List.drop_eq_nil_of_le (by omega)] at hf;cases hf
theorem Tj {F:Nat} {s:mosaic_Spec} {k:mosaic_Key} {p:Nat} (hF:200≤F) (h:RG F s) (hk:okK s k) (hp:p<pix s) :
  ∃(v:Int) (b:api_Span),(G0 F s (whK k))[p]? = some b∧Gs F s k (p:Int)=some (if v<0 then (⟨0,0⟩,false) else (b,true))∧(v<0→b=⟨1,0⟩)∧(¬v<0→∃r,lkM (radM s) k.Name=some r∧0≤v.tmod r.Site.Gates∧v.tmod r.Site.Gates<r.Site.Gates∧b=Mc r.Site k.Tilt s.Earth (v.tmod r.Site.Gates)):=by
 have hl:=h.len;obtain ⟨r,hr⟩:=hk.1;obtain ⟨V,e,hV,eb⟩:=Mx hF h.gs hk hr;obtain ⟨hvs,_,_,_,_⟩:=h.gs.r _ _ hr;have hg:=hvs.gates;have hpv:p<V.length:=by omega
 have hf:=hr;rw [Ju h] at hf;refine ⟨V[p],Jl s k.Tilt r V[p],?_,?_,?_,?_⟩
 ·show (G0 F s ⟨k.Name,k.Tilt⟩)[p]? = _;rw [eb,List.getElem?_map,List.getElem?_eq_getElem hpv];rfl
 ·exact V7 h hr hk e (List.getElem?_eq_getElem hpv) F 0 (by rw [List.drop_zero];exact hf) (by omega) (by omega)
 ·intro hv;unfold Jl;rw [if_neg (by omega)]
 ·intro hv;refine ⟨r,hr,Int.tmod_nonneg _ (by omega),Int.tmod_lt_of_pos _ (by omega),?_⟩;unfold Jl;rw [if_pos (by omega)]
theorem V8 {F:Nat} {s:mosaic_Spec} {k:mosaic_Key} {p:Int} (h:RG F s) (hk:∀r∈s.Radars,r.Site.Name≠k.Name) :
  ∀(n i:Nat),i≤s.Radars.length→s.Radars.length-i<n→D0 F s k p n (i:Int)=some (⟨0,0⟩,false):=by
 have hl:=h.len;intro n
 induction n with
 | zero=>intro i _ h;omega
 | succ n ih =>
  intro i hi hn;rw [D0];unfold Fw
  by_cases hc:i<s.Radars.length
  ·rw [Cb (dT (by omega)),Dg i s.Radars[i] rfl (List.getElem?_eq_getElem hc),Xv,dF (hk _ (List.getElem_mem hc)),Cb (c:=!false) rfl,ckb (by omega)];exact ih (i+1) (by omega) (by omega)
  ·rw [Bc (dF (by omega))];rfl
end Go.Proofs.YtkbjbnkkfifbmaaGreat
namespace Go.Proofs.YtkbjbnkkfifbmaaGreat
open Go Go.RowKit Go.Eng
set_option maxRecDepth 10000
set_option linter.unusedVariables false
set_option linter.unusedSimpArgs false
def Wf (x:law11_Station):Prop:=(-32768≤x.X∧x.X≤32767)∧(-32768≤x.Y∧x.Y≤32767)∧(0≤x.Z∧x.Z≤65535)∧(0≤x.Rose∧x.Rose≤255)∧(0≤x.Gates∧x.Gates≤255)∧(0≤x.Width∧x.Width≤255)∧(0≤x.Lo∧x.Lo≤65535)∧(0≤x.Hi∧x.Hi≤65535)
def Nj (n:law11_Net):Prop:=(0≤n.Wide∧n.Wide≤255)∧(0≤n.High∧n.High≤255)∧(Wf n.Stations.1∧Wf n.Stations.2.1∧Wf n.Stations.2.2)∧(0≤n.Count∧n.Count≤255)∧(0≤n.Age∧n.Age≤65535)
def N8 (p:law11_Post):Prop:=(0≤p.Radar∧p.Radar≤255)∧(0≤p.Tilt∧p.Tilt≤255)∧(0≤p.Time∧p.Time≤65535)∧(∀y∈p.Vals,0≤y∧y≤65535)∧(0≤p.Wide∧p.Wide≤255)
theorem tm {x y:Int} (h:0≤x) (hy:0<y):0≤x.tmod y∧x.tmod y<y:=⟨Int.tmod_nonneg _ h,Int.tmod_lt_of_pos _ hy⟩
theorem tm2 (x:Int) {y:Int} (hy:0<y):-y<x.tmod y∧x.tmod y<y:=by
 refine ⟨?_,Int.tmod_lt_of_pos _ hy⟩;have:=Int.tmod_lt_of_pos (-x) hy;rw [Int.neg_tmod] at this;omega
def nmR (i:Nat):ByteArray:=if i=0 then ⟨#[97]⟩ else if i=1 then ⟨#[98]⟩ else ⟨#[99]⟩
def mkR (i:Nat) (x:law11_Station):mosaic_Radar:=⟨⟨nmR i,x.X.tmod 4000,x.Y.tmod 4000,x.Z.tmod 1000,1+x.Rose.tmod 3,1+x.Gates.tmod 5,1000,x.Width.tmod 3⟩,⟨x.Lo.tmod 601-300,x.Lo.tmod 601-300+x.Hi.tmod 300⟩⟩
def Pd (n:law11_Net):List mosaic_Radar:=[mkR 0 n.Stations.1,mkR 1 n.Stations.2.1,mkR 2 n.Stations.2.2].take (n.Count.tmod 3).toNat.succ
def Jw (n:law11_Net):mosaic_Spec:=⟨⟨-2000,-2000,1000,1+n.Wide.tmod 4,1+n.High.tmod 4⟩,⟨8000000,9000000⟩,Pd n,1+n.Age.tmod 2000⟩
theorem L8 {n:law11_Net} {a b c:Int} (h:Nj n) (i:Nat) (m:Nat) (l:List mosaic_Radar) (hl:l.length≤3) (hi:(i:Int)≤n.Count.tmod 3) :
  Bd n a b c (m+1) l (i:Int)=Bd n a b c m (l++[mkR i (if i=0 then n.Stations.1 else if i=1 then n.Stations.2.1 else n.Stations.2.2)]) ((i+1:Nat):Int):=by
 obtain ⟨_,_,⟨s1,s2,s3⟩,hc,_⟩:=h;have hcm:=tm hc.1 (y:=3) (by omega);rw [Bd];unfold Dr;rw [ckb (by omega),Fe (by omega),Cb (dT hi)];have hi3:i=0∨i=1∨i=2:=by omega
 rcases hi3 with rfl|rfl|rfl
 ·obtain ⟨⟨a1,b1⟩,⟨a2,b2⟩,⟨a3,b3⟩,⟨a4,b4⟩,⟨a5,b5⟩,⟨a6,b6⟩,⟨a7,b7⟩,⟨a8,b8⟩⟩:=s1;have t1:=tm a7 (y:=601) (by omega);have t2:=tm a8 (y:=300) (by omega);have t3:=tm a4 (y:=3) (by omega);have t4:=tm a5 (y:=5) (by omega);rw [Cb (c:=(((0:Nat):Int)==0)) rfl,ckb (by omega),Fe (by omega),ckb (by omega),Dg 0 _ rfl rfl,ckb (by omega),Fe (by omega),ckb (by omega),Fe (by omega),ckb (by omega),Fe (by omega),ckb (by omega),Fe (by omega),ckb (by omega),ckb (by omega),Fe (by omega),ckb (by omega),ckb (by omega),Fe (by omega),ckb (by omega),Fe (by omega),ckb (by omega),Mb (by simp;omega) (by decide),ckb (by omega)];rfl
 ·obtain ⟨⟨a1,b1⟩,⟨a2,b2⟩,⟨a3,b3⟩,⟨a4,b4⟩,⟨a5,b5⟩,⟨a6,b6⟩,⟨a7,b7⟩,⟨a8,b8⟩⟩:=s2;have t1:=tm a7 (y:=601) (by omega);have t2:=tm a8 (y:=300) (by omega);have t3:=tm a4 (y:=3) (by omega);have t4:=tm a5 (y:=5) (by omega);rw [Bc (c:=(((1:Nat):Int)==0)) rfl,Cb (c:=(((1:Nat):Int)==1)) rfl,ckb (by omega),Fe (by omega),ckb (by omega),Dg 1 _ rfl rfl,ckb (by omega),Fe (by omega),ckb (by omega),Fe (by omega),ckb (by omega),Fe (by omega),ckb (by omega),Fe (by omega),ckb (by omega),ckb (by omega),Fe (by omega),ckb (by omega),ckb (by omega),Fe (by omega),ckb (by omega),Fe (by omega),ckb (by omega),Mb (by simp;omega) (by decide),ckb (by omega)];rfl
 ·obtain ⟨⟨a1,b1⟩,⟨a2,b2⟩,⟨a3,b3⟩,⟨a4,b4⟩,⟨a5,b5⟩,⟨a6,b6⟩,⟨a7,b7⟩,⟨a8,b8⟩⟩:=s3;have t1:=tm a7 (y:=601) (by omega);have t2:=tm a8 (y:=300) (by omega);have t3:=tm a4 (y:=3) (by omega);have t4:=tm a5 (y:=5) (by omega);rw [Bc (c:=(((2:Nat):Int)==0)) rfl,Bc (c:=(((2:Nat):Int)==1)) rfl,Cb (c:=(((2:Nat):Int)==2)) rfl,ckb (by omega),Fe (by omega),ckb (by omega),Dg 2 _ rfl rfl,ckb (by omega),Fe (by omega),ckb (by omega),Fe (by omega),ckb (by omega),Fe (by omega),ckb (by omega),Fe (by omega),ckb (by omega),ckb (by omega),Fe (by omega),ckb (by omega),ckb (by omega),Fe (by omega),ckb (by omega),Fe (by omega),ckb (by omega),Mb (by simp;omega) (by decide),ckb (by omega)];rfl
theorem P6 {n:law11_Net} {a b c:Int} (h:Nj n) (i:Nat) (m:Nat) (l:List mosaic_Radar) (hi:¬(i:Int)≤n.Count.tmod 3) :
  Bd n a b c (m+1) l (i:Int)=some ⟨⟨-2000,-2000,1000,a,b⟩,⟨8000000,9000000⟩,l,c⟩:=by
 obtain ⟨_,_,_,hc,_⟩:=h;rw [Bd];unfold Dr;rw [ckb (by omega),Fe (by omega),Bc (dF hi)];rfl
theorem Xl {F:Nat} {n:law11_Net} (hF:10≤F) (h:Nj n):Ea F n=some (Jw n):=by
 obtain ⟨m,rfl⟩:∃m,F=m+4:=⟨F-4,by omega⟩;have h':=h;obtain ⟨hw,hh,_,hc,ha⟩:=h';have t1:=tm hw.1 (y:=4) (by omega);have t2:=tm hh.1 (y:=4) (by omega);have t3:=tm ha.1 (y:=2000) (by omega);have t4:=tm hc.1 (y:=3) (by omega);unfold Ea;rw [ckb (by omega),Fe (by omega),ckb (by omega),ckb (by omega),Fe (by omega),ckb (by omega),ckb (by omega),Fe (by omega),ckb (by omega)];have s0:=L8 (a:=1+n.Wide.tmod 4) (b:=1+n.High.tmod 4) (c:=1+n.Age.tmod 2000) h 0 (m+3) [] (by simp) (by omega);refine Eq.trans (b:=Bd n (1+n.Wide.tmod 4) (1+n.High.tmod 4) (1+n.Age.tmod 2000) (m+3) ([]++[mkR 0 n.Stations.1]) ((0+1:Nat):Int)) s0 ?_;have hcc:n.Count.tmod 3=0∨n.Count.tmod 3=1∨n.Count.tmod 3=2:=by omega
 rcases hcc with e|e|e
 ·rw [P6 h 1 (m+2) _ (by omega)];unfold Jw Pd;rw [e];rfl
 ·rw [L8 h 1 (m+2) _ (by simp) (by omega),P6 h (1+1) (m+1) _ (by omega)];unfold Jw Pd;rw [e];rfl
 ·rw [L8 h 1 (m+2) _ (by simp) (by omega),L8 h (1+1) (m+1) _ (by simp) (by omega),P6 h (1+1+1) m _ (by omega)];unfold Jw Pd;rw [e];rfl
theorem A04 (F i:Nat):Jm F (nmR i)=some true:=by
 unfold nmR
 split
 ·kernel_rfl
 ·split<;>kernel_rfl
theorem A03 (i:Nat):nmR i≠ByteArray.empty:=by
 unfold nmR
 split
 ·decide
 ·split<;>decide
structure MR (r:mosaic_Radar):Prop where
 step:r.Site.Step=1000
 width:0≤r.Site.Width∧r.Site.Width≤2
 gates:1≤r.Site.Gates∧r.Site.Gates≤5
theorem W6 {F:Nat} {x:law11_Station} (i:Nat) (h:Wf x):VS (mkR i x).Site∧beam_CheckSite F (mkR i x).Site=some 0∧(-3600≤(mkR i x).Offset.Lo∧(mkR i x).Offset.Lo≤(mkR i x).Offset.Hi∧(mkR i x).Offset.Hi≤3600)∧(mkR i x).Site.Name≠ByteArray.empty∧MR (mkR i x):=by
 obtain ⟨⟨a1,b1⟩,⟨a2,b2⟩,⟨a3,b3⟩,⟨a4,b4⟩,⟨a5,b5⟩,⟨a6,b6⟩,⟨a7,b7⟩,⟨a8,b8⟩⟩:=h;have t1:=tm a7 (y:=601) (by omega);have t2:=tm a8 (y:=300) (by omega);have t3:=tm a4 (y:=3) (by omega);have t4:=tm a5 (y:=5) (by omega);have t5:=tm2 x.X (y:=4000) (by omega);have t6:=tm2 x.Y (y:=4000) (by omega);have t7:=tm a3 (y:=1000) (by omega);have t8:=tm a6 (y:=3) (by omega);have hv:VS (mkR i x).Site:=by
  refine ⟨?_,?_,?_,?_,?_,?_,?_⟩<;>(unfold mkR;dsimp only;omega)
 refine ⟨hv,Qc hv (A04 F i),?_,A03 i,?_⟩
 ·unfold mkR;dsimp only;omega
 ·refine ⟨rfl,?_,?_⟩<;>(unfold mkR;dsimp only;omega)
theorem Tw {n:law11_Net} (h:Nj n):∀r∈Pd n,∃i x,Wf x∧r=mkR i x:=by
 obtain ⟨_,_,⟨s1,s2,s3⟩,_,_⟩:=h;intro r hr;have:=List.mem_of_mem_take hr;simp only [List.mem_cons,List.not_mem_nil,or_false] at this;rcases this with rfl|rfl|rfl
 ·exact ⟨_,_,s1,rfl⟩
 ·exact ⟨_,_,s2,rfl⟩
 ·exact ⟨_,_,s3,rfl⟩
theorem Tx {F:Nat} {n:law11_Net} (h:Nj n):RG F (Jw n):=by
 have h':=h;obtain ⟨hw,hh,_,hc,ha⟩:=h';have t1:=tm hw.1 (y:=4) (by omega);have t2:=tm hh.1 (y:=4) (by omega);have t3:=tm ha.1 (y:=2000) (by omega);have t4:=tm hc.1 (y:=3) (by omega);have hm:=J5 (x:=1+n.Wide.tmod 4) (y:=1+n.High.tmod 4) (A:=4) (B:=4) (by omega) (by omega);have hlen:(Pd n).length=(n.Count.tmod 3).toNat.succ:=by
  unfold Pd;rw [List.length_take];simp;omega
 refine ⟨?_,?_,?_,?_,?_,?_,?_⟩
 ·refine ⟨?_,?_,?_,?_,?_⟩<;>(unfold Jw;dsimp only;omega)
 ·unfold VE Jw;dsimp only;omega
 ·unfold Jw;dsimp only;omega
 ·unfold pix Jw;dsimp only;omega
 ·show 1≤(Pd n).length∧(Pd n).length≤32;rw [hlen];omega
 ·show ((Pd n).map (·.Site.Name)).Nodup;unfold Pd;rw [List.map_take];refine List.Nodup.sublist (List.take_sublist _ _) ?_;show [nmR 0,nmR 1,nmR 2].Nodup
  decide
 ·intro r hr;obtain ⟨i,x,hx,rfl⟩:=Tw h r hr;obtain ⟨a,b,c,d,_⟩:=W6 (F:=F) i hx;exact ⟨a,b,c,d⟩
theorem Y0 {n:law11_Net} (h:Nj n) {nm:ByteArray} {r:mosaic_Radar} (hr:lkM (radM (Jw n)) nm=some r):MR r:=by
 rw [Ju (Tx (F:=0) h)] at hr;obtain ⟨i,x,hx,rfl⟩:=Tw h r (List.mem_of_find?_eq_some hr);exact (W6 (F:=0) i hx).2.2.2.2
def L1 (p:law11_Post) (i:Nat):Int:=if p.Vals.length=0 then 0 else (p.Vals[i%p.Vals.length]?).getD 0
theorem Tz {p:law11_Post} (h:N8 p) (i:Nat):0≤L1 p i∧L1 p i≤65535:=by
 unfold L1
 by_cases hl:p.Vals.length=0
 ·rw [if_pos hl];omega
 ·rw [if_neg hl];have hlt:i%p.Vals.length<p.Vals.length:=Nat.mod_lt _ (by omega);rw [List.getElem?_eq_getElem hlt];exact h.2.2.2.1 _ (List.getElem_mem hlt)
def Kh (p:law11_Post) (s:mosaic_Spec):mosaic_Message:=⟨⟨((s.Radars[p.Radar.toNat%s.Radars.length]?).getD default).Site.Name,p.Tilt.tmod 4,p.Time.tmod 2000⟩,(List.range (pix s)).map fun i=>⟨L1 p i,L1 p i+p.Wide⟩⟩
theorem Sa {a b:Nat}:((a:Int)).tmod (b:Int)=((a%b:Nat):Int):=rfl
theorem Wk {F:Nat} {s:mosaic_Spec} {p:law11_Post} {u:mosaic_Radar} {t v:Int} (h:RG F s) (hp:N8 p):∀(n i:Nat) (acc:List api_Span),i≤pix s→pix s-i<n→acc.length=i →
  C1 p s u t v n acc (i:Int)=some ⟨⟨u.Site.Name,t,v⟩,acc++((List.range (pix s)).drop i).map fun i=>⟨L1 p i,L1 p i+p.Wide⟩⟩:=by
 have hpx:=Wi h.gs;have hsm:=h.small;have hw:=hp.2.2.2.2;intro n
 induction n with
 | zero=>intro i _ _ h;omega
 | succ n ih =>
  intro i acc hi hn ha;rw [C1];unfold Eh;rw [hpx.1,ckb (by omega)]
  by_cases hc:i<pix s
  ·rw [Cb (dT (by omega))];have hv:=Tz hp i;have fin:Cp p acc (i:Int) (C1 p s u t v n) (L1 p i)=some ⟨⟨u.Site.Name,t,v⟩,acc++((List.range (pix s)).drop i).map fun i=>⟨L1 p i,L1 p i+p.Wide⟩⟩:=by
    unfold Cp;rw [ckb (by omega),ckb (by omega),Mb (by simp;omega) (by decide),ckb (by omega)];have:=ih (i+1) (acc++[⟨L1 p i,L1 p i+p.Wide⟩]) (by omega) (by omega) (by simp;omega);rw [List.append_assoc,List.singleton_append] at this;rw [List.drop_eq_getElem_cons (show i<(List.range (pix s)).length by simpa using hc),List.map_cons,List.getElem_range];exact this
   by_cases hl:p.Vals.length=0
   ·rw [Bc (dF (by omega)),show (0:Int)=L1 p i by unfold L1;rw [if_pos hl]];exact fin
   ·have hlt:i%p.Vals.length<p.Vals.length:=Nat.mod_lt _ (by omega);have e:L1 p i=p.Vals[i%p.Vals.length]:=by
     unfold L1;rw [if_neg hl,List.getElem?_eq_getElem hlt];rfl
    rw [Cb (dT (by omega)),Fe (by omega),Sa,Dg (i%p.Vals.length) (L1 p i) rfl (by rw [e];exact List.getElem?_eq_getElem hlt),ckb (by omega)];exact fin
  ·rw [Bc (dF (by omega)),List.drop_eq_nil_of_le (by simp;omega)];unfold Ei;rw [List.map_nil,List.append_nil]
theorem Xr {F:Nat} {s:mosaic_Spec} {p:law11_Post} (hF:600≤F) (h:RG F s) (hp:N8 p):Et F p s=some (Kh p s):=by
 have hpx:=Wi h.gs;have hsm:=h.small;have hl:=h.len;have hp':=hp;obtain ⟨⟨r1,r2⟩,⟨t1,t2⟩,⟨m1,m2⟩,_,_⟩:=hp';obtain ⟨R,hR⟩:∃R:Nat,p.Radar=R:=⟨p.Radar.toNat,by omega⟩;have hlt:R%s.Radars.length<s.Radars.length:=Nat.mod_lt _ (by omega);unfold Et;rw [ckb (by omega),Fe (by omega),hR,Sa,Dg (R%s.Radars.length) s.Radars[R%s.Radars.length] rfl (List.getElem?_eq_getElem hlt),ckb (by omega),Fe (by omega),ckb (by omega),Fe (by omega)];have:=Wk (u:=s.Radars[R%s.Radars.length]) (t:=p.Tilt.tmod 4) (v:=p.Time.tmod 2000) h hp F 0 [] (by omega) (by omega) rfl;rw [List.drop_zero,List.nil_append] at this;refine Eq.trans this ?_;unfold Kh;rw [hR,Int.toNat_natCast,List.getElem?_eq_getElem hlt];rfl
theorem Z2 {F:Nat} {s:mosaic_Spec} {p:law11_Post} (h:RG F s) (hp:N8 p):okM s (Kh p s)∧(0≤(Kh p s).Key.Tilt∧(Kh p s).Key.Tilt≤3)∧(0≤(Kh p s).Key.Time∧(Kh p s).Key.Time≤1999):=by
 have hl:=h.len;have hlt:p.Radar.toNat%s.Radars.length<s.Radars.length:=Nat.mod_lt _ (by omega);have hw:=hp.2.2.2.2;have a1:=tm hp.2.1.1 (y:=4) (by omega);have a2:=tm hp.2.2.1.1 (y:=2000) (by omega);have k1:0≤(Kh p s).Key.Tilt∧(Kh p s).Key.Tilt≤3:=by unfold Kh;dsimp only;omega
 have k2:0≤(Kh p s).Key.Time∧(Kh p s).Key.Time≤1999:=by unfold Kh;dsimp only;omega
 have hnm:(Kh p s).Key.Name=s.Radars[p.Radar.toNat%s.Radars.length].Site.Name:=by unfold Kh;rw [List.getElem?_eq_getElem hlt];rfl
 have hlk:=h.lk (r:=s.Radars[p.Radar.toNat%s.Radars.length]) (List.getElem_mem hlt);rw [←hnm] at hlk;refine ⟨⟨⟨⟨_,hlk⟩,by omega,by omega⟩,?_,?_⟩,k1,k2⟩
 ·unfold Kh;simp
 ·intro v hv;unfold Kh at hv;simp only [List.mem_map] at hv;obtain ⟨i,_,rfl⟩:=hv;have:=Tz hp i;dsimp only;omega
end Go.Proofs.YtkbjbnkkfifbmaaGreat
namespace Go.Proofs.YtkbjbnkkfifbmaaGreat
open Go Go.RowKit Go.Eng
set_option maxRecDepth 10000
set_option linter.unusedVariables false
set_option linter.unusedSimpArgs false
def Ge (s:mosaic_Spec) (N:mosaic_Node) (t:Int):List mosaic_Message:=(Lw N).filter fun m=>H8 s N t m.Key
def ctd (N:mosaic_Node):List mosaic_Key:=(ksN N).filter fun k=>decide (2≤(kl N.kept k).length)
abbrev YM:=List mosaic_Pixel×Int×List (mosaic_where×List api_Span)
theorem X5 {y273:List mosaic_Message×Int} {L:List mosaic_Key} {acc:List mosaic_Message} {x:Int} {k11:List mosaic_Message→Int→Option Bool} {u:mosaic_Message} (hL:L.length≤100000) :
  ∀(n j:Nat) (c:Bool),j≤L.length→L.length-j<n→Bm y273 L acc x k11 u n c (j:Int)=Ck y273 acc x k11 (c&&(L.drop j).all fun k=>decide (k≠u.Key)):=by
 intro n
 induction n with
 | zero=>intro j c _ h;omega
 | succ n ih =>
  intro j c hj hn;rw [Bm];unfold Db
  by_cases hc:j<L.length
  ·rw [Cb (dT (by omega)),List.drop_eq_getElem_cons hc,List.all_cons]
   cases c with
   | true =>
    rw [gdT (g:=(true==true&&true)) rfl,Dg j L[j] rfl (List.getElem?_eq_getElem hc),ckb (by omega),Yx];refine (ih (j+1) _ (by omega) (by omega)).trans ?_
    congr 1
    by_cases e:L[j]=u.Key
    ·rw [dT e,dF (fun h:L[j]≠u.Key=>h e)];rfl
    ·rw [dF e,dT (show L[j]≠u.Key from e)];rfl
   | false =>
    rw [gdF (g:=(false==true&&true)) rfl,sbd,ckb (by omega)];exact ih (j+1) _ (by omega) (by omega)
  ·rw [Bc (dF (by omega)),List.drop_eq_nil_of_le (by omega)];simp
theorem Y6 {F:Nat} {s:mosaic_Spec} {N:mosaic_Node} {t:Int} {Y:YM} (hF:1000≤F) (h:RG F s) (hN:NI F s N) (ht:0≤t∧t≤100000) (hn:tot N.kept<900) (M:List mosaic_Message) (hM:∀m∈M,m∈Lw N) (hl:M.length≤100000) :
  ∀(n i:Nat) (acc:List mosaic_Message),i≤M.length→M.length-i<n→acc.length≤i→B5 F s t (M,0) Y (ctd N) n acc (i:Int)=Cu F s Y (acc++(M.drop i).filter fun m=>H8 s N t m.Key):=by
 intro n
 induction n with
 | zero=>intro i acc _ h;omega
 | succ n ih =>
  intro i acc hi hn' ha;rw [B5];unfold Da;rw [show (M,(0:Int)).1=M from rfl]
  by_cases hc:i<M.length
  ·have hm:=hM _ (List.getElem_mem hc);have hkl:=Js.1 hm;have hks:M[i].Key∈ksN N:=by
    rw [Kq];unfold kl at hkl
    cases e:lkM N.kept M[i].Key with
    | none=>rw [e] at hkl;cases hkl
    | some l=>exact ⟨l,rfl⟩
   obtain ⟨hk,hne⟩:=hN.key hks;obtain ⟨r,hr⟩:=hk.1;have hcl:(ctd N).length≤(ksN N).length:=List.length_filter_le _ _;have hsmall:=hN.small;rw [Cb (dT (by omega)),Dg i M[i] rfl (List.getElem?_eq_getElem hc),Xb (by omega) h hr hk.2.2,sbd];have e0:Bm (M,0) (ctd N) acc (i:Int) (B5 F s t (M,0) Y (ctd N) n) M[i] F (decide (M[i].Key.Time+r.Offset.Hi≤t∧t≤M[i].Key.Time+r.Offset.Lo+s.Age)) 0=_ :=
    X5 (y273:=(M,0)) (L:=ctd N) (acc:=acc) (x:=i) (k11:=B5 F s t (M,0) Y (ctd N) n) (u:=M[i]) (by omega) F 0 _ (by omega) (by omega)
   rw [e0,List.drop_zero];have eb:(decide (M[i].Key.Time+r.Offset.Hi≤t∧t≤M[i].Key.Time+r.Offset.Lo+s.Age)&&(ctd N).all fun k=>decide (k≠M[i].Key))=H8 s N t M[i].Key:=by
    have eo:Un s M[i].Key=r.Offset:=by unfold Un;rw [hr];rfl
    have hlen:1≤(kl N.kept M[i].Key).length:=List.length_pos_iff.2 hne;have hct:((ctd N).all fun k=>decide (k≠M[i].Key))=decide ((kl N.kept M[i].Key).length=1):=by
     by_cases h2:2≤(kl N.kept M[i].Key).length
     ·rw [dF (show ¬(kl N.kept M[i].Key).length=1 by omega),List.all_eq_false];exact ⟨M[i].Key,List.mem_filter.2 ⟨hks,dT h2⟩,by simp⟩
     ·rw [dT (show (kl N.kept M[i].Key).length=1 by omega),List.all_eq_true];intro k hk';refine dT fun e=>?_;have:=(List.mem_filter.1 hk').2;rw [e] at this;exact h2 (of_decide_eq_true this)
    rw [hct];unfold H8;rw [eo]
    by_cases h1:(kl N.kept M[i].Key).length=1∧M[i].Key.Time+r.Offset.Hi≤t∧t-M[i].Key.Time-r.Offset.Lo≤s.Age
    ·rw [dT h1,dT h1.1,dT (show M[i].Key.Time+r.Offset.Hi≤t∧t≤M[i].Key.Time+r.Offset.Lo+s.Age from ⟨h1.2.1,by omega⟩)];rfl
    ·rw [dF h1]
     by_cases h3:(kl N.kept M[i].Key).length=1
     ·rw [dF (show ¬(M[i].Key.Time+r.Offset.Hi≤t∧t≤M[i].Key.Time+r.Offset.Lo+s.Age) from fun x=>h1 ⟨h3,x.1,by omega⟩)];rfl
     ·rw [dF h3,Bool.and_false]
   rw [eb,List.drop_eq_getElem_cons hc];unfold Ck Cj
   cases hb:H8 s N t M[i].Key with
   | true =>
    rw [cond_true,show (M,(0:Int)).1=M from rfl,Dg i M[i] rfl (List.getElem?_eq_getElem hc),Mb (by simp;omega) (by decide),ckb (by omega),List.filter_cons_of_pos (by exact hb)];have:=ih (i+1) (acc++[M[i]]) (by omega) (by omega) (by simp;omega);rw [List.append_assoc,List.singleton_append] at this;exact this
   | false =>
    rw [cond_false,ckb (by omega),List.filter_cons_of_neg (by rw [hb];decide)];exact ih (i+1) acc (by omega) (by omega) (by omega)
  ·rw [Bc (dF (by omega)),List.drop_eq_nil_of_le (by omega)];simp
def T1 (U:List mosaic_Message) (u:mosaic_Message):Bool:=U.all fun o=>decide (whK o.Key=whK u.Key→o.Key.Time≤u.Key.Time)
theorem T2 {Y:YM} {U:List mosaic_Message} {p:Int} {mine:api_Span×Bool} {met found:Bool} {x:Int} {k7:Bool→Bool→Int→Option Bool} {u:mosaic_Message} {b:api_Span×Bool} (hU:U.length≤100000) :
  ∀(n j:Nat) (c:Bool),j≤U.length→U.length-j<n→Bl Y U p mine met found x k7 u b n c (j:Int)=Bo Y U p mine met found x k7 u b (c&&T1 (U.drop j) u):=by
 intro n
 induction n with
 | zero=>intro j c _ h;omega
 | succ n ih =>
  intro j c hj hn;rw [Bl];unfold D9
  by_cases hc:j<U.length
  ·rw [Cb (dT (by omega)),Dg j U[j] rfl (List.getElem?_eq_getElem hc),ckb (by omega),List.drop_eq_getElem_cons hc];refine (ih (j+1) _ (by omega) (by omega)).trans ?_
   congr 1
   have eb:(bif (bif (!(sEq U[j].Key.Name u.Key.Name)) then true else (U[j].Key.Tilt != u.Key.Tilt)) then true else (decide (U[j].Key.Time≤u.Key.Time)))=decide (whK U[j].Key=whK u.Key→U[j].Key.Time≤u.Key.Time):=by
    rw [Xv]
    by_cases h1:U[j].Key.Name=u.Key.Name
    ·rw [dT h1]
     by_cases h2:U[j].Key.Tilt=u.Key.Tilt
     ·have hw:whK U[j].Key=whK u.Key:=by unfold whK;rw [h1,h2]
      rw [h2,Bc (c:=bif !true then true else (u.Key.Tilt != u.Key.Tilt)) (by simp)]
      by_cases h3:U[j].Key.Time≤u.Key.Time
      ·rw [dT h3,dT (fun _=>h3)]
      ·rw [dF h3,dF (fun x=>h3 (x hw))]
     ·rw [Cb (c:=bif !true then true else (U[j].Key.Tilt != u.Key.Tilt)) (by simpa using h2),dT];intro e;exact absurd (congrArg mosaic_where.tilt e) h2
    ·rw [dF h1,Cb (c:=bif !false then true else (U[j].Key.Tilt != u.Key.Tilt)) rfl,dT];intro e;exact absurd (congrArg mosaic_where.name e) h1
   cases c with
   | false=>rfl
   | true =>
    rw [cond_true,eb];rfl
  ·rw [Bc (dF (by omega)),List.drop_eq_nil_of_le (by omega)];unfold T1;simp
theorem A0p (a b:api_Span):(((a.Lo:Int)==b.Lo)&&(((a.Hi:Int)==b.Hi)&&true))=decide (a=b):=by
 obtain ⟨x,y⟩:=a;obtain ⟨x',y'⟩:=b;dsimp only
 by_cases h:x=x'∧y=y'
 ·obtain ⟨rfl,rfl⟩:=h;simp
 ·rw [dF (by simpa using h)]
  cases h1:(x==x') with
  | false=>rfl
  | true =>
   cases h2:(y==y') with
   | false=>rfl
   | true=>exact absurd ⟨by simpa using h1,by simpa using h2⟩ h
theorem V0 {Y:YM} {U:List mosaic_Message} {p i:Nat} {mine b:api_Span} {ms sees met found nw:Bool} {k7:Bool→Bool→Int→Option Bool} {u:mosaic_Message} {x:mosaic_Pixel} {v:api_Span} (hx:Y.1[p]? = some x) (hu:U[i]? = some u) (hv:u.Vals[p]? = some v) (hi:i≤100000)
  (hlow:(sees&&nw)=true→¬(b.Lo<mine.Lo∧b.Hi<mine.Hi)) :
  Bo Y U (p:Int) (mine,ms) met found (i:Int) k7 u (b,sees) nw=if (sees&&nw)=true then k7 true (found||decide (u.Key=x.Key∧v=x.Value_)) ((i+1:Nat):Int) else k7 met found ((i+1:Nat):Int):=by
 have k8:∀a c,B3 (i:Int) k7 a c=k7 a c ((i+1:Nat):Int):=fun a c=>by
  unfold B3;rw [ckb (by omega)];rfl
 unfold Bo
 by_cases hs:(sees&&nw)=true
 ·obtain ⟨rfl,rfl⟩:sees=true∧nw=true:=by simpa using hs
  have hl:=hlow hs;have hlb:(bif (decide ((b,true).1.Lo<(mine,ms).1.Lo)) then (decide ((b,true).1.Hi<(mine,ms).1.Hi)) else false)=false:=by
   by_cases h1:b.Lo<mine.Lo
   ·rw [show decide ((b,true).1.Lo<(mine,ms).1.Lo)=true from dT h1,cond_true];exact dF fun h2=>hl ⟨h1,h2⟩
   ·rw [show decide ((b,true).1.Lo<(mine,ms).1.Lo)=false from dF h1];rfl
  rw [if_pos hs,Bc (c:=bif (!(b,true).2) then true else (!true)) rfl,hlb]
  cases found with
  | true =>
   rw [gdF (g:=(true==false&&true)) rfl,sbd];simp only [k8,cond_true,cond_false,Bool.true_or]
   cases ((u.Key.Name==(default:mosaic_Pixel).Key.Name)&&(((u.Key.Tilt:Int)==(default:mosaic_Pixel).Key.Tilt)&&(((u.Key.Time:Int)==(default:mosaic_Pixel).Key.Time)&&true)))<;>rfl
  | false =>
   rw [gdT (g:=(false==false&&true)) rfl,Dg p x rfl hx,Yx]
   by_cases hk:u.Key=x.Key
   ·rw [dT hk,cond_true,cond_false,cond_true,Dg i u rfl hu,Dg p v rfl hv,Dg p x rfl hx,cond_false,k8,A0p]
    by_cases hvx:v=x.Value_
    ·rw [dT hvx,dT ⟨hk,hvx⟩];rfl
    ·rw [dF hvx,dF (fun h=>hvx h.2)];rfl
   ·rw [dF hk,cond_false,cond_false,k8,dF (fun h=>hk h.1)];rfl
 ·rw [if_neg hs];have:(bif (!(b,sees).2) then true else (!nw))=true:=by
   cases sees with
   | false=>rfl
   | true =>
    cases nw with
    | false=>rfl
    | true=>exact absurd rfl hs
  rw [Cb this,k8]
theorem Wa {s:mosaic_Spec} {N:mosaic_Node} {t:Int} {F:Nat} (hN:NI F s N) {u:mosaic_Message} (hu:u∈Ge s N t) (hb:T1 (Ge s N t) u=true):u.Key∈L0 s N t:=by
 have hks:∀m∈Lw N,m.Key∈ksN N:=fun m hm=>by
  have hkl:=Js.1 hm;rw [Kq];unfold kl at hkl
  cases e:lkM N.kept m.Key with
  | none=>rw [e] at hkl;cases hkl
  | some l=>exact ⟨l,rfl⟩
 obtain ⟨h1,h2⟩:=List.mem_filter.1 hu;rw [Lb];refine ⟨hks u h1,h2,fun k' hk' hf hw=>?_⟩;obtain ⟨_,hne⟩:=hN.key hk';obtain ⟨v,vs,hv⟩:=List.exists_cons_of_ne_nil hne;have hm:(⟨k',v⟩:mosaic_Message)∈Ge s N t:=List.mem_filter.2 ⟨Js.2 (show v∈kl N.kept k' by rw [hv];exact .head _),hf⟩;unfold T1 at hb;rw [List.all_eq_true] at hb;exact of_decide_eq_true (hb _ hm) hw
def Ra (s:mosaic_Spec):Prop:=∀k r,lkM (radM s) k=some r→∀(t g:Int),(0≤t∧t≤3)→(0≤g∧g<r.Site.Gates)→(Mc r.Site t s.Earth g).Lo≤(Mc r.Site t s.Earth g).Hi
theorem W0 {n:law11_Net} (h:Nj n):Ra (Jw n):=by
 intro k r hr t g ht hg;have:=Y0 h hr;have hg2:=this.gates;exact Yz this.step this.width ht (by omega)
def LowT (N:mosaic_Node):Prop:=∀k∈ksN N,0≤k.Tilt∧k.Tilt≤3
theorem Up {F:Nat} {s:mosaic_Spec} {N:mosaic_Node} {t:Int} {Y:YM} {p:Nat} {x:mosaic_Pixel} {k4:Int→Option Bool} {mine:api_Span} {ms:Bool} (hF:1000≤F) (h:RG F s) (hN:NI F s N) (hlo:Ra s) (hlt:LowT N) (hp:p<pix s) (hx:Y.1[p]? = some x) (hpx:Nt ((L0 s N t).map (Fv F s N)) p x)
  (hlen:(Ge s N t).length≤900) (hmine:∀k∈L0 s N t,x.Key=k→∃b,(G0 F s (whK k))[p]? = some b∧(b.Lo≤b.Hi→mine=b)) :
  ∀(n i:Nat) (met found:Bool),i≤(Ge s N t).length→(Ge s N t).length-i<n→(found=true→met=true)→(met=true→∃u∈L0 s N t,∃b,(G0 F s (whK u))[p]? = some b∧b.Lo≤b.Hi)→((∃m∈(Ge s N t).take i,m.Key=x.Key∧m.Key∈L0 s N t∧m.Vals[p]? = some x.Value_∧(∃b,(G0 F s (whK m.Key))[p]? = some b∧b.Lo≤b.Hi))→found=true) →
  Bg F s Y (Ge s N t) (p:Int) k4 (mine,ms) n met found (i:Int)=k4 ((p+1:Nat):Int):=by
 have hsm:=h.small;have hUm:∀m∈Ge s N t,m∈Lw N∧H8 s N t m.Key=true:=fun m hm=>List.mem_filter.1 hm;have hUk:∀m∈Ge s N t,m.Key∈ksN N:=fun m hm=>by
  have hkl:=Js.1 (hUm m hm).1;rw [Kq];unfold kl at hkl
  cases e:lkM N.kept m.Key with
  | none=>rw [e] at hkl;cases hkl
  | some l=>exact ⟨l,rfl⟩
 intro n
 induction n with
 | zero=>intro i _ _ _ h;omega
 | succ n ih =>
  intro i met found hi hn hfm hmu hfd;rw [Bg];unfold Dp
  by_cases hc:i<(Ge s N t).length
  ·have q1:i+1≤(Ge s N t).length:=hc;have q2:(Ge s N t).length-(i+1)<n:=by omega
   have q3:i≤100000:=by omega
   obtain ⟨u,hue⟩:∃u,u=(Ge s N t)[i]:=⟨_,rfl⟩;have hum:u∈Ge s N t:=hue▸List.getElem_mem hc;have hgu:(Ge s N t)[i]? = some u:=by rw [hue];exact List.getElem?_eq_getElem hc
   have hks:=hUk u hum;obtain ⟨hk,_⟩:=hN.key hks;have hvl:u.Vals.length=pix s:=hN.kl_ok _ _ (Js.1 (hUm u hum).1);obtain ⟨val,hval⟩:∃v,u.Vals[p]? = some v:=⟨_,List.getElem?_eq_getElem (by omega)⟩;obtain ⟨gv,b,hb,hband,hb0,hb1⟩:=Tj (F:=F) (p:=p) (by omega) h hk hp;have hseen:¬gv<0→b.Lo≤b.Hi:=fun hg=>by
    obtain ⟨r,hr,g0,g1,rfl⟩:=hb1 hg;exact hlo _ _ hr _ _ (hlt _ hks) ⟨g0,g1⟩
   rw [Cb (dT (by omega)),Dg i u rfl hgu,hband,sbd];have e0:Bl Y (Ge s N t) (p:Int) (mine,ms) met found (i:Int) (Bg F s Y (Ge s N t) (p:Int) k4 (mine,ms) n) u (if gv<0 then (⟨0,0⟩,false) else (b,true)) F true 0=Bo Y (Ge s N t) (p:Int) (mine,ms) met found (i:Int) (Bg F s Y (Ge s N t) (p:Int) k4 (mine,ms) n) u (if gv<0 then (⟨0,0⟩,false) else (b,true)) (true&&T1 ((Ge s N t).drop 0) u) :=
    T2 (by omega) F 0 true (by omega) (by omega)
   rw [e0,List.drop_zero,Bool.true_and];have ht1:(Ge s N t).take (i+1)=(Ge s N t).take i++[u]:=by rw [List.take_succ_eq_append_getElem hc,←hue]
   by_cases hg:gv<0
   ·rw [if_pos hg,V0 (mine:=mine) (b:=⟨0,0⟩) (sees:=false) hx hgu hval q3 (fun e=>by cases e),if_neg (by rw [Bool.false_and];decide)]
    refine ih (i+1) met found q1 q2 hfm hmu ?_;rintro ⟨m,hm,a1,a2,a3,b',a4,a5⟩;rw [ht1,List.mem_append,List.mem_singleton] at hm;rcases hm with hm|rfl
    ·exact hfd ⟨m,hm,a1,a2,a3,b',a4,a5⟩
    ·rw [hb] at a4;cases a4
     rw [hb0 hg] at a5;exact absurd a5 (by decide)
   ·have hs:=hseen hg;rw [if_neg hg]
    by_cases hnw:T1 (Ge s N t) u=true
    ·have hku:=Wa hN hum hnw;have huse:Fv F s N u.Key∈(L0 s N t).map (Fv F s N):=List.mem_map.2 ⟨_,hku,rfl⟩;rcases hpx with ⟨_,h0⟩|⟨w,hw,b2,v2,c1,c2,c3,rfl,c5⟩
     ·exact absurd hs (h0 _ huse b hb)
     ·obtain ⟨k0,hk0,rfl⟩:=List.mem_map.1 hw;have hmi:mine=b2:=by
       obtain ⟨b3,d1,d2⟩:=hmine k0 hk0 rfl;have:b3=b2:=by
        have c1':(G0 F s (whK k0))[p]? = some b2:=c1;rw [c1'] at d1;cases d1;rfl
       rw [d2 (this▸c2),this]
      have hnlt:¬b.Hi<b2.Hi:=fun hh=>c5 _ huse b hb hs (X2 hh);rw [V0 (mine:=mine) (b:=b) (sees:=true) hx hgu hval q3 (fun _ e=>hnlt (hmi▸e.2)),if_pos (by rw [hnw];rfl)];refine ih (i+1) true _ q1 q2 (fun _=>rfl) (fun _=>⟨_,hku,b,hb,hs⟩) ?_;rintro ⟨m,hm,a1,a2,a3,b',a4,a5⟩;rw [ht1,List.mem_append,List.mem_singleton] at hm;rcases hm with hm|rfl
      ·rw [hfd ⟨m,hm,a1,a2,a3,b',a4,a5⟩];rfl
      ·rw [hval] at a3;cases a3
       rw [dT ⟨a1,rfl⟩,Bool.or_true]
    ·rw [V0 (mine:=mine) (b:=b) (sees:=true) hx hgu hval q3 (fun e=>absurd (by simpa using e) hnw),if_neg (by simpa using hnw)];refine ih (i+1) met found q1 q2 hfm hmu ?_;rintro ⟨m,hm,a1,a2,a3,b',a4,a5⟩;rw [ht1,List.mem_append,List.mem_singleton] at hm;rcases hm with hm|rfl
     ·exact hfd ⟨m,hm,a1,a2,a3,b',a4,a5⟩
     ·refine absurd ?_ hnw;unfold T1;rw [List.all_eq_true];intro o ho;refine dT fun hw=>?_;exact (Lb.1 a2).2.2 o.Key (hUk o ho) (hUm o ho).2 hw
  ·rw [Bc (dF (by omega))];have hi':i=(Ge s N t).length:=by omega
   have hk5:Cv (p:Int) k4=k4 ((p+1:Nat):Int):=by unfold Cv;rw [ckb (by omega)];rfl
   unfold Dq;rcases hpx with ⟨hgap,h0⟩|⟨w,hw,b2,v2,c1,c2,c3,hxe,c5⟩
   ·have hm:met=false:=by
     cases met with
     | false=>rfl
     | true =>
      obtain ⟨u,hu,b,hb,hs⟩:=hmu rfl;exact absurd hs (h0 _ (List.mem_map.2 ⟨u,hu,rfl⟩) b hb)
    have hf:found=false:=by
     cases found with
     | false=>rfl
     | true=>have:=hfm rfl;rw [hm] at this;cases this
    subst hm;subst hf;rw [gdT (g:=((!false)==true&&((!(false==false))==false&&true))) rfl,Dg p x rfl hx,hgap];have e1:((mosaic_Pixel.mk ⟨0,1000000⟩ ⟨ByteArray.empty,0,0⟩).Key.Name==ByteArray.empty)=true:=(baE _ _).2 rfl;rw [e1];rw [gdT (g:=((!(true&&(((mosaic_Pixel.mk ⟨0,1000000⟩ ⟨ByteArray.empty,0,0⟩).Key.Tilt==0)&&(((mosaic_Pixel.mk ⟨0,1000000⟩ ⟨ByteArray.empty,0,0⟩).Key.Time==0)&&true))))==false&&((!false)==true&&((!(false==false))==false&&true)))) rfl,Dg p x rfl hx,hgap];refine (Bc ?_).trans hk5
    kernel_rfl
   ·obtain ⟨k0,hk0,rfl⟩:=List.mem_map.1 hw;have hfound:found=true:=by
     obtain ⟨q1,q2,_⟩:=Lb.1 hk0;obtain ⟨_,hne⟩:=hN.key q1;obtain ⟨v,vs,hv⟩:=List.exists_cons_of_ne_nil hne;have hvals:(Fv F s N k0).vals=v:=by show ((kl N.kept k0)[0]?).getD []=v;rw [hv];rfl
     refine hfd ⟨⟨k0,v⟩,?_,by rw [hxe];rfl,hk0,?_,b2,c1,c2⟩
     ·rw [hi',List.take_length];exact List.mem_filter.2 ⟨Js.2 (show v∈kl N.kept k0 by rw [hv];exact .head _),q2⟩
     ·rw [hvals] at c3;rw [hxe];exact c3
    have hmet:=hfm hfound;subst hfound;subst hmet;rw [gdF (g:=((!true)==true&&((!(true==true))==false&&true))) rfl,sbd,gdF (g:=(_&&((!true)==true&&((!(true==true))==false&&true)))) (Bool.and_false _),sbd];refine (Bc ?_).trans hk5;rfl
end Go.Proofs.YtkbjbnkkfifbmaaGreat
namespace Go.Proofs.YtkbjbnkkfifbmaaGreat
open Go Go.RowKit Go.Eng
set_option maxRecDepth 10000
set_option linter.unusedVariables false
set_option linter.unusedSimpArgs false
theorem Vm {α β:Type} {l:List α} {f g:α→List β} (h:∀x∈l,f x=g x):l.flatMap f=l.flatMap g:=by
 induction l with
 | nil=>rfl
 | cons x l ih=>rw [List.flatMap_cons,List.flatMap_cons,h x (.head _),ih fun y hy=>h y (.tail _ hy)]
theorem Vl {B:List (mosaic_Key×List (List api_Span))} (hn:(B.map (·.1)).Nodup):((B.map (·.1)).flatMap fun k=>(kl B k).map (mosaic_Message.mk k)).length=tot B:=by
 induction B with
 | nil=>rfl
 | cons p B ih =>
  rw [List.map_cons,List.nodup_cons] at hn;rw [List.map_cons,List.flatMap_cons,List.length_append,List.length_map];have e1:tot (p::B)=p.2.length+tot B:=by simp [tot]
  have e2:kl (p::B) p.1=p.2:=by unfold kl lkM;rw [if_pos rfl];rfl
  have e3:((B.map (·.1)).flatMap fun k=>(kl (p::B) k).map (mosaic_Message.mk k))=(B.map (·.1)).flatMap fun k=>(kl B k).map (mosaic_Message.mk k):=by
   refine Vm fun k hk=>?_;have:kl (p::B) k=kl B k:=by
    unfold kl;show (if k=p.1 then some p.2 else lkM B k).getD []=_;rw [if_neg (fun e:k=p.1=>hn.1 (e▸hk))]
   rw [this]
  rw [e1,e2,e3,ih hn.2]
theorem W9 {F:Nat} {s:mosaic_Spec} {N:mosaic_Node} (h:NI F s N):(Lw N).length=tot N.kept:=by
 have:=(List.Perm.flatMap_right (fun k=>(kl N.kept k).map (mosaic_Message.mk k)) (Hw N).2.1).length_eq;exact this.trans (Vl h.nd)
theorem T5 {F:Nat} {s:mosaic_Spec} {N:mosaic_Node} {t:Int} {Y:YM} (hF:1000≤F) (h:RG F s) (hN:NI F s N) (hlo:Ra s) (hlt:LowT N) (hY:Y.1.length=pix s) (hpx:∀p x,Y.1[p]? = some x→Nt ((L0 s N t).map (Fv F s N)) p x) (hlen:(Ge s N t).length≤900) :
  ∀(n p:Nat),p≤pix s→pix s-p<n→Bp F s Y (Ge s N t) n (p:Int)=Bf F:=by
 have hsm:=h.small;have hl:=h.len;intro n
 induction n with
 | zero=>intro p _ h;omega
 | succ n ih =>
  intro p hp hn;rw [Bp];unfold Do
  by_cases hc:p<pix s
  ·obtain ⟨x,hx⟩:∃x,Y.1[p]? = some x:=⟨_,List.getElem?_eq_getElem (by omega)⟩;have hxp:=hpx p x hx;have q1:p+1≤pix s:=hc;have q2:pix s-(p+1)<n:=by omega
   have q3:(Ge s N t).length<F:=by omega
   have q4:s.Radars.length<F:=by omega
   have q5:200≤F:=by omega
   rw [Cb (dT (by omega)),Dg p x rfl hx];obtain ⟨mine,ms,hband,hmine⟩:∃(mine:api_Span) (ms:Bool),Gs F s x.Key (p:Int)=some (mine,ms)∧∀k∈L0 s N t,x.Key=k→∃b,(G0 F s (whK k))[p]? = some b∧(b.Lo≤b.Hi→mine=b):=by
    rcases hxp with ⟨rfl,_⟩|⟨w,hw,b2,v2,c1,c2,c3,rfl,c5⟩
    ·refine ⟨⟨0,0⟩,false,V8 h (fun r hr=>(h.ok r hr).2.2.2) F 0 (by omega) (by omega),?_⟩;intro k hk e;obtain ⟨r,hr⟩:=(hN.key (Lb.1 hk).1).1.1;exact absurd (congrArg (·.Name) e).symm (h.gs.r _ _ hr).2.2.2.1
    ·obtain ⟨k0,hk0,rfl⟩:=List.mem_map.1 hw;obtain ⟨hk,_⟩:=hN.key (Lb.1 hk0).1;obtain ⟨v,b,d1,d2,d3,_⟩:=Tj (F:=F) (p:=p) q5 h hk hc
     by_cases hv:v<0
     ·refine ⟨⟨0,0⟩,false,by rw [if_pos hv] at d2;exact d2,?_⟩;intro k _ e;have e:k0=k:=e;subst e;exact ⟨b,d1,fun hb=>by rw [d3 hv] at hb;exact absurd hb (by decide)⟩
     ·refine ⟨b,true,by rw [if_neg hv] at d2;exact d2,?_⟩;intro k _ e;have e:k0=k:=e;subst e;exact ⟨b,d1,fun _=>rfl⟩
   rw [hband,sbd];have:=Up (k4:=Bp F s Y (Ge s N t) n) (mine:=mine) (ms:=ms) hF h hN hlo hlt hc hx hxp hlen hmine F 0 false false (Nat.zero_le _) (by omega) (fun e=>by cases e) (fun e=>by cases e) (by rintro ⟨m,hm,_⟩;simp at hm)
   refine Eq.trans this ?_;exact ih (p+1) q1 q2
  ·rw [Bc (dF (by omega))]
theorem Wo {F:Nat} {s:mosaic_Spec} {N:mosaic_Node} {t:Int} (hF:1000≤F) (h:RG F s) (hN:NI F s N) (hlo:Ra s) (hlt:LowT N) (hn:tot N.kept≤100) (hh:N.horizon=0) (hp:0≤t∧t≤65535) :
  Ct F t s N.spec.Grid.X N.spec.Grid.Y N.horizon N.count N.spec.Grid.Size N.spec.Grid.Wide N.spec.Grid.High N.spec.Earth.Lo N.spec.Earth.Hi N.spec.Radars N.spec.Age N.radars N.kept N.looks=Bf F:=by
 have hpx:=Wi h.gs;have hsm:=h.small;have ht:=tm hp.1 (y:=4000) (by omega);obtain ⟨t',ht'⟩:∃t',t'=t.tmod 4000:=⟨_,rfl⟩;rw [←ht'] at ht;unfold Ct;rw [show (mosaic_Node.mk (mosaic_Spec.mk (api_Grid.mk N.spec.Grid.X N.spec.Grid.Y N.spec.Grid.Size N.spec.Grid.Wide N.spec.Grid.High) (api_Span.mk N.spec.Earth.Lo N.spec.Earth.Hi) N.spec.Radars N.spec.Age) N.radars N.horizon N.kept N.count N.looks)=N from rfl];obtain ⟨out,L,e1,hL,e2,e3⟩:=Yl (t:=t') hF h.gs hN (by omega) (by omega) (by omega);rw [ckb (by omega),Fe (by omega),←ht',Rb hF h.gs hN (by omega),sbd,e1,sbd];rw [show ((Lw N,(0:Int)).2 != 0)=false from rfl,show (out,(0:Int),L).1=out from rfl,show (out,(0:Int),L).2.2=L from rfl];rw [gdT (g:=((bif false then true else false)==false&&true)) rfl,hpx.1,ckb (by omega),Bc (c:=bif (bif false then true else false) then true else (((out.length:Nat):Int) != (pix s:Int))) (by rw [e2];simp)];have hN2:NI F s (mosaic_Node.mk N.spec N.radars N.horizon N.kept N.count L):=⟨hN.spec,hN.radars,hN.nd,hN.ok,hN.count,hL⟩;have hct:D1 F (mosaic_Node.mk (mosaic_Spec.mk (api_Grid.mk N.spec.Grid.X N.spec.Grid.Y N.spec.Grid.Size N.spec.Grid.Wide N.spec.Grid.High) (api_Span.mk N.spec.Earth.Lo N.spec.Earth.Hi) N.spec.Radars N.spec.Age) N.radars N.horizon N.kept N.count L)=some (ctd N) :=
  Qe hN2 (by show tot N.kept<900;omega)
 rw [hct,sbd];have hml:=W9 hN;have hul:(Ge s N t').length≤(Lw N).length:=List.length_filter_le _ _;have e4:=Y6 (Y:=(out,0,L)) (t:=t') hF h hN (by omega) (by omega) (Lw N) (fun m hm=>hm) (by omega) F 0 [] (by omega) (by omega) (by simp);rw [List.drop_zero,List.nil_append] at e4;refine Eq.trans e4 ?_;unfold Cu;exact T5 (Y:=(out,0,L)) hF h hN hlo hlt e2 e3 (by omega) F 0 (by omega) (by omega)
theorem LowT.put {N:mosaic_Node} {m:mosaic_Message} {r:Nat} (h:LowT N) (hm:0≤m.Key.Tilt∧m.Key.Tilt≤3):LowT (Wl N m r):=by
 intro k hk;obtain ⟨l,hl⟩:=Kq.1 hk;have hl:lkM (upM N.kept m.Key (Ml (kl N.kept m.Key) r m.Vals)) k=some l:=hl;rw [Ng] at hl
 by_cases e:k=m.Key
 ·rw [e];exact hm
 ·rw [if_neg e] at hl;exact h k (Kq.2 ⟨l,hl⟩)
theorem T3 {F:Nat} {s:mosaic_Spec} {l:List law11_Post} {t:Int} (hF:1000≤F) (h:RG F s) (hlo:Ra s) (hp:∀p∈l,N8 p) (hl:l.length≤12) (ht:0≤t∧t≤65535) :
  ∀(n i:Nat) (N:mosaic_Node),i≤l.length→l.length-i<n→NI F s N→LowT N→N.horizon=0→N.count≤i→Bx F l t s n N.spec.Grid.X N.spec.Grid.Y N.horizon N.count N.spec.Grid.Size N.spec.Grid.Wide N.spec.Grid.High N.spec.Earth.Lo N.spec.Earth.Hi N.spec.Radars N.spec.Age N.radars N.kept N.looks (i:Int)=Bf F:=by
 intro n
 induction n with
 | zero=>intro i N _ h;omega
 | succ n ih =>
  intro i N hi hn hN hlt hh hc;have hcount:=hN.count;rw [Bx];unfold Dc
  by_cases hc2:i<l.length
  ·have hpo:=hp _ (List.getElem_mem hc2);obtain ⟨hm,ht3,htm⟩:=Z2 h hpo;obtain ⟨r,b,e,hr,-⟩:=V2 hF h.gs hN hm (by omega) (by omega);rw [Cb (dT (by omega)),Dg i l[i] rfl (List.getElem?_eq_getElem hc2),Xr (by omega) h hpo,sbd];rw [show (mosaic_Node.mk (mosaic_Spec.mk (api_Grid.mk N.spec.Grid.X N.spec.Grid.Y N.spec.Grid.Size N.spec.Grid.Wide N.spec.Grid.High) (api_Span.mk N.spec.Earth.Lo N.spec.Earth.Hi) N.spec.Radars N.spec.Age) N.radars N.horizon N.kept N.count N.looks)=N from rfl];rw [e,sbd,ckb (by omega)]
   cases b with
   | true=>exact ih (i+1) N (by omega) (by omega) hN hlt hh (by omega)
   | false=>exact ih (i+1) (Wl N (Kh l[i] s) r) (by omega) (by omega) (hN.put hm hr) (hlt.put ht3) hh (by show N.count+1≤_;omega)
  ·rw [Bc (dF (by omega))];exact Wo hF h hN hlo hlt (by omega) hh ht
theorem U0:H9 2000=some true:=by kernel_rfl
theorem Ns (n:law11_Net) (l:List law11_Post) (t:Int) (hn:Nj n) (hl:∀p∈l,N8 p) (ht:0≤t∧t≤65535):Dn 2000 n l t=some true:=by
 have hw:Bf 2000=some true:=by unfold Bf;rw [U0];rfl
 have h:=Tx (F:=2000) hn;unfold Dn
 by_cases hc:l.length≤12
 ·rw [Bc (dF (by omega))];have e:Ea 2000 (law11_Net.mk n.Wide n.High ((law11_Station.mk n.Stations.1.X n.Stations.1.Y n.Stations.1.Z n.Stations.1.Rose n.Stations.1.Gates n.Stations.1.Width n.Stations.1.Lo n.Stations.1.Hi),(law11_Station.mk n.Stations.2.1.X n.Stations.2.1.Y n.Stations.2.1.Z n.Stations.2.1.Rose n.Stations.2.1.Gates n.Stations.2.1.Width n.Stations.2.1.Lo n.Stations.2.1.Hi),(law11_Station.mk n.Stations.2.2.X n.Stations.2.2.Y n.Stations.2.2.Z n.Stations.2.2.Rose n.Stations.2.2.Gates n.Stations.2.2.Width n.Stations.2.2.Lo n.Stations.2.2.Hi)) n.Count n.Age)=some (Jw n):=Xl (by omega) hn;rw [e,sbd,Ym (by omega) h,sbd];have:=T3 (t:=t) (F:=2000) (by omega) h (W0 hn) hl hc ht 2000 0 (Si (Jw n)) (by omega) (by omega) U7 (fun k hk=>by obtain ⟨l,hl⟩:=Kq.1 hk;cases hl) rfl (Int.le_refl _)
  exact this.trans hw
 ·rw [Cb (dT (by omega)),U0];rfl
end Go.Proofs.YtkbjbnkkfifbmaaGreat
