import Derived.Test.YtkbjbnkkfifbmaaGreatS10WkD
set_option linter.unusedVariables false
set_option linter.unusedSimpArgs false
set_option linter.unusedSectionVars false
namespace Go.Proofs.YtkbjbnkkfifbmaaGreat
open Go Go.RowKit Go.Eng
set_option maxRecDepth 10000
set_option linter.unusedVariables false
set_option linter.unusedSimpArgs false
theorem ckb {β:Type} {x:Int} {f:Int→Option β} (h:-9000000000000000000≤x∧x≤9000000000000000000):(ck x).bind f=f x:=by
 unfold ck;rw [if_pos (by omega)];rfl
theorem ckS {x:Int} (h:-9000000000000000000≤x∧x≤9000000000000000000):ck x=some x:=by
 unfold ck;rw [if_pos (by omega)]
theorem gdT {α:Type} {g:Bool} {o:Option α} {d:α} (h:g=true):gd g o d=o:=by subst h;rfl
theorem gdF {α:Type} {g:Bool} {o:Option α} {d:α} (h:g=false):gd g o d=some d:=by subst h;rfl
theorem Bn {α:Type} {c:Bool} {x y:α} (h:c=true):(bif c then x else y)=x:=by rw [h];rfl
theorem B2 {α:Type} {c:Bool} {x y:α} (h:c=false):(bif c then x else y)=y:=by rw [h];rfl
theorem sbd {α β:Type} {x:α} {f:α→Option β}:(some x).bind f=f x:=rfl
theorem dT {p:Prop} [Decidable p] (h:p):decide p=true:=decide_eq_true h
theorem dF {p:Prop} [Decidable p] (h:¬p):decide p=false:=decide_eq_false h
theorem Dk {α β:Type} {l:List α} {i:Int} {f:α→Option β} (n:Nat) (x:α) (hi:i=(n:Int)) (h:l[n]? = some x):(Bo l i).bind f=f x:=by
 subst hi;unfold Bo;rw [if_pos (by omega),show ((n:Int)).toNat=n by omega,h];rfl
theorem Kd {α β:Type} {l k:List α} {B:Nat} {f:List α→Option β} (h:(l.length+k.length)*B≤140737488355328) (hB:1≤B):(apd B l k).bind f=f (l++k):=by
 unfold apd;have:l.length+k.length≤(l.length+k.length)*B:=Nat.le_mul_of_pos_right _ hB;rw [if_pos ⟨h,by omega⟩];rfl
theorem A1r {x:Int} (h:-9000000000000000000≤x∧x≤9000000000000000000):IntKind.i64.wrap x=x:=by rw [IntKind.wrap_i64];omega
theorem Up {x y A B:Int} (hx:-A≤x∧x≤A) (hy:-B≤y∧y≤B):-(A*B)≤x*y∧x*y≤A*B:=by
 have h1:(x*y).natAbs≤A.natAbs*B.natAbs:=by rw [Int.natAbs_mul];exact Nat.mul_le_mul (by omega) (by omega)
 have h2:0≤A*B:=Int.mul_nonneg (by omega) (by omega);have h3:(A*B).natAbs=A.natAbs*B.natAbs:=Int.natAbs_mul A B;omega
theorem Lu {x y A B:Int} (hx:0≤x∧x≤A) (hy:0≤y∧y≤B):0≤x*y∧x*y≤A*B :=
 ⟨Int.mul_nonneg hx.1 hy.1,(Up (A:=A) (B:=B) ⟨by omega,hx.2⟩ ⟨by omega,hy.2⟩).2⟩
theorem Xh {β:Type} {x y:Int} {f:Int→Option β} (hx:0≤x) (hx2:x≤9000000000000000000) (hy:0<y):(Nq x y).bind f=f (x/y):=by
 unfold Nq;rw [if_neg (by omega),Int.tdiv_eq_ediv_of_nonneg hx,ckb];have h1:0≤x/y:=Int.ediv_nonneg hx (by omega);have h2:x/y≤x:=Int.ediv_le_self _ hx;omega
structure VS (s:api_Site):Prop where
 x:-1048576≤s.X∧s.X≤1048576
 y:-1048576≤s.Y∧s.Y≤1048576
 z:0≤s.Z∧s.Z≤20000
 rose:1≤s.Rose∧s.Rose≤90
 gates:1≤s.Gates∧s.Gates≤200
 step:50≤s.Step∧s.Step≤2000
 width:0≤s.Width∧s.Width≤8
structure VG (g:api_Grid):Prop where
 x:-1048576≤g.X∧g.X≤1048576
 y:-1048576≤g.Y∧g.Y≤1048576
 size:1≤g.Size∧g.Size≤10000
 wide:1≤g.Wide∧g.Wide≤64
 high:1≤g.High∧g.High≤64
theorem F6 {n a b:Int} (h:a≤n∧n≤b):Aa n a b=true:=by unfold Aa;rw [dT h.1,dT h.2];rfl
theorem Qc {g:api_Grid} (h:VG g):Bw g=0:=by
 unfold Bw Cy;rw [F6 h.x,F6 h.y,F6 h.size,F6 h.wide,F6 h.high];rfl
theorem Ty {F:Nat} {s:api_Site} (h:VS s) (hn:Ms F s.Name=some true):beam_CheckSite F s=some 0:=by
 unfold beam_CheckSite;rw [hn,sbd,F6 h.x,F6 h.y,F6 h.z];simp only [Bool.not_true,cond_false];unfold Ef Dm;rw [F6 h.rose,F6 h.gates,F6 h.step,F6 h.width];rfl
def slt (t:Int):beam_slant:=⟨262144-t*t,1024*t,262144+t*t⟩
theorem sqB {t:Int} (h:-264≤t∧t≤264):0≤t*t∧t*t≤69696:=by
 have h1:=Up (A:=264) (B:=264) h h;have h2:0≤t*t:=by
  rcases Int.le_total 0 t with h|h
  ·exact Int.mul_nonneg h h
  ·exact Int.mul_nonneg_of_nonpos_of_nonpos h h
 exact ⟨h2,by omega⟩
theorem Ly {F:Nat} {t:Int} (h:-264≤t∧t≤264):Ev F t=some (slt t):=by
 have h1:=sqB h;unfold Ev;rw [ckb (by omega),ckb (by omega),ckb (by omega),ckb (by omega),ckb (by omega)];rfl
theorem Tc {F:Nat} {s:api_Site} {t j:Int} (hs:VS s) (ht:0≤t∧t≤256) (hj:0≤j∧j≤200):∃b,Hl F j s (slt t)=some b∧0≤b∧b≤400000:=by
 have h1:=sqB (t:=t) (by omega);have h2:=hs.step;have h3:=Lu (x:=j) (y:=s.Step) (A:=200) (B:=2000) hj (by omega);have h4:=Lu (x:=j*s.Step) (y:=262144-t*t) (A:=400000) (B:=262144) (by omega) (by omega);refine ⟨(j*s.Step*(262144-t*t))/(262144+t*t),?_,Int.ediv_nonneg (by omega) (by omega),?_⟩
 ·unfold Hl slt;dsimp only;rw [ckb (by omega),ckb (by omega),Xh (by omega) (by omega) (by omega)]
 ·refine Int.ediv_le_of_le_mul (by omega) ?_;have h5:j*s.Step*(262144-t*t)≤400000*(262144-t*t):=Int.mul_le_mul_of_nonneg_right (by omega) (by omega);omega
theorem A5o {F:Nat} {s:api_Site} {t w:Int} (hs:VS s) (ht:0≤t∧t≤256):∀(n:Nat) (lo hi:Int),0≤lo→lo<hi→hi≤s.Gates→hi-lo≤n→∃j,Ht F s w (slt t) n lo hi=some j∧0≤j∧j<s.Gates:=by
 intro n;have hg:=hs.gates
 induction n with
 | zero=>intro lo hi _ _ _ h;omega
 | succ n ih =>
  intro lo hi h0 h1 h2 h3;unfold Ht Le;rw [ckb (by omega)]
  by_cases hc:hi-lo>1
  ·rw [Bn (dT hc),ckb (by omega),Xh (by omega) (by omega) (by omega)];obtain ⟨b,hb,b0,b1⟩:=Tc (F:=F) (t:=t) (j:=(lo+hi)/2) hs ht (by omega);have hbb:=Lu (x:=b) (y:=b) ⟨b0,b1⟩ ⟨b0,b1⟩;rw [hb,sbd,sbd,ckb (by omega)]
   by_cases hw:b*b≤w
   ·rw [Bn (dT hw)];exact ih _ _ (by omega) (by omega) h2 (by omega)
   ·rw [B2 (dF hw)];exact ih _ _ h0 (by omega) (by omega) (by omega)
  ·rw [B2 (dF hc)];exact ⟨lo,rfl,h0,by omega⟩
theorem A29 {F:Nat} {s:api_Site} {t w:Int} (hF:200≤F) (hs:VS s) (ht:0≤t∧t≤256):∃j,Mu F s t w=some j∧j<s.Gates∧-1≤j:=by
 have hg:=hs.gates;obtain ⟨b,hb,b0,b1⟩:=Tc (F:=F) (t:=t) (j:=s.Gates) hs ht (by omega);have hbb:=Lu (x:=b) (y:=b) ⟨b0,b1⟩ ⟨b0,b1⟩;unfold Mu;rw [Ly (by omega),sbd,hb,sbd,ckb (by omega)]
 by_cases hw:w≥b*b
 ·rw [Bn (dT hw)];exact ⟨-1,rfl,by omega,by omega⟩
 ·rw [B2 (dF hw)];obtain ⟨j,hj,j0,j1⟩:=A5o (F:=F) (w:=w) hs ht F 0 s.Gates (by omega) (by omega) (by omega) (by omega);exact ⟨j,hj,j1,by omega⟩
theorem Uc {F:Nat} {r a:Int} (hr:1≤r∧r≤90) (ha:0≤a∧a<r):Hk F r a=some ⟨2*r*a,r*r-a*a,r*r+a*a⟩:=by
 have h1:=Lu (x:=r) (y:=r) (A:=90) (B:=90) (by omega) (by omega);have h2:=Lu (x:=a) (y:=a) (A:=90) (B:=90) (by omega) (by omega);have h3:=Lu (x:=2*r) (y:=a) (A:=180) (B:=90) (by omega) (by omega);have e1:F2 a r=some a:=by unfold F2;rw [if_neg (by omega),Int.tmod_eq_of_lt ha.1 ha.2]
 have e2:Nq a r=some 0:=by unfold Nq;rw [if_neg (by omega),Int.tdiv_eq_zero_of_lt ha.1 ha.2];rfl
 unfold Hk;rw [e1,sbd,ckb (by omega),ckb (by omega),ckb (by omega),ckb (by omega),ckb (by omega),ckb (by omega),ckb (by omega),ckb (by omega),e2,sbd];rfl
theorem A68 {F:Nat} {r x y q:Int} (hr:1≤r∧r≤90) (hx:-10000000≤x∧x≤10000000) (hy:-10000000≤y∧y≤10000000) (hq:0≤q∧q≤4):∀(n:Nat) (lo hi:Int),0≤lo→lo<hi→hi≤r→hi-lo≤n→∃j,Jh F r x y q n lo hi=some j∧0≤j∧j≤450:=by
 intro n
 induction n with
 | zero=>intro lo hi _ _ _ h;omega
 | succ n ih =>
  intro lo hi h0 h1 h2 h3;unfold Jh M7;rw [ckb (by omega)]
  by_cases hc:hi-lo>1
  ·rw [Bn (dT hc),ckb (by omega),Xh (by omega) (by omega) (by omega),Uc hr (by omega),sbd];obtain ⟨m,hm⟩:∃m,m=(lo+hi)/2:=⟨_,rfl⟩;rw [←hm];have k1:=Lu (x:=r) (y:=r) (A:=90) (B:=90) (by omega) (by omega);have k2:=Lu (x:=m) (y:=m) (A:=90) (B:=90) (by omega) (by omega);have k3:=Lu (x:=2*r) (y:=m) (A:=180) (B:=90) (by omega) (by omega);have k4:=Up (x:=r*r-m*m) (y:=x) (A:=16200) (B:=10000000) (by omega) hx;have k5:=Up (x:=2*r*m) (y:=y) (A:=16200) (B:=10000000) (by omega) hy;unfold Hf;dsimp only;rw [ckb (by omega),ckb (by omega),sbd]
   cases decide ((r*r-m*m)*x≥2*r*m*y) with
   | true=>exact ih _ _ (by omega) (by omega) h2 (by omega)
   | false=>exact ih _ _ h0 (by omega) (by omega) (by omega)
  ·rw [B2 (dF hc)];have k1:=Lu (x:=q) (y:=r) (A:=4) (B:=90) hq (by omega);unfold M9;rw [ckb (by omega),ckb (by omega)];exact ⟨_,rfl,by omega,by omega⟩
theorem A50 {F:Nat} {r x y:Int} (hF:100≤F) (hr:1≤r∧r≤90) (hx:-10000000≤x∧x≤10000000) (hy:-10000000≤y∧y≤10000000) (h0:¬(x=0∧y=0)):∃j,Ns F r x y=some j∧0≤j∧j≤450:=by
 have step:∀(n:Nat) (x y q:Int),-10000000≤x∧x≤10000000→-10000000≤y∧y≤10000000→0≤q∧q≤4 →
   ((x<0∨y≤0)∧Ff F r (n+1) x y q=Ff F r n (-y) x (q+1))∨(¬(x<0∨y≤0)∧∃j,Ff F r (n+1) x y q=some j∧0≤j∧j≤450):=by
  intro n x y q hx hy hq
  by_cases hc:x<0∨y≤0
  ·refine .inl ⟨hc,?_⟩;rw [Ff];unfold Kt;have e:(bif (decide (x<0)) then true else (decide (y≤0)))=true:=by
    rcases hc with h|h
    ·rw [dT h];rfl
    ·rw [dT h];cases decide (x<0)<;>rfl
   rw [e,cond_true,ckb (by omega),A1r (by omega),show 0-y=-y by omega]
  ·refine .inr ⟨hc,?_⟩;rw [Ff];unfold Kt M8;have e:(bif (decide (x<0)) then true else (decide (y≤0)))=false:=by rw [dF (by omega),dF (by omega)];rfl
   rw [e,cond_false];exact A68 hr hx hy hq F 0 r (by omega) (by omega) (by omega) (by omega)
 obtain ⟨n,rfl⟩:∃n,F=n+4:=⟨F-4,by omega⟩;unfold Ns;rcases step (n+3) x y 0 hx hy (by omega) with ⟨c1,e1⟩|⟨_,h⟩
 ·rw [e1];rcases step (n+2) (-y) x (0+1) (by omega) hx (by omega) with ⟨c2,e2⟩|⟨_,h⟩
  ·rw [e2];rcases step (n+1) (-x) (-y) (0+1+1) (by omega) (by omega) (by omega) with ⟨c3,e3⟩|⟨_,h⟩
   ·rw [e3];rcases step n (- -y) (-x) (0+1+1+1) (by omega) (by omega) (by omega) with ⟨c4,e4⟩|⟨_,h⟩
    ·omega
    ·exact h
   ·exact h
  ·exact h
 ·exact h
theorem A27 {F:Nat} {s:api_Site} {t x y:Int} (hF:200≤F) (hs:VS s) (ht:0≤t∧t≤256) (hx:-3000000≤x∧x≤3000000) (hy:-3000000≤y∧y≤3000000) :
  ∃a j b,Mt F s t x y=some (a,j,b)∧(0≤a∧a≤450)∧(0≤j∧j<s.Gates):=by
 have h1:=hs.x;have h2:=hs.y;have hg:=hs.gates;unfold Mt;rw [ckb (by omega),ckb (by omega)]
 by_cases hc:x-s.X=0∧y-s.Y=0
 ·rw [hc.1,hc.2];exact ⟨0,0,true,rfl,by omega,by omega⟩
 ·have e:(bif (x-s.X==0) then (y-s.Y==0) else false)=false:=by
   cases h:(x-s.X==0) with
   | false=>rfl
   | true =>
    cases h':(y-s.Y==0) with
    | false=>rfl
    | true=>exact absurd ⟨by simpa using h,by simpa using h'⟩ hc
  have k1:=Up (x:=x-s.X) (y:=x-s.X) (A:=5000000) (B:=5000000) (by omega) (by omega);have k2:=Up (x:=y-s.Y) (y:=y-s.Y) (A:=5000000) (B:=5000000) (by omega) (by omega);rw [B2 e,ckb (by omega),ckb (by omega),ckb (by omega)];obtain ⟨j,hj,j1,j0⟩:=A29 (F:=F) (t:=t) (w:=(x-s.X)*(x-s.X)+(y-s.Y)*(y-s.Y)) hF hs ht;rw [hj,sbd]
  by_cases hn:j<0
  ·rw [Bn (dT hn)];exact ⟨0,0,false,rfl,by omega,by omega⟩
  ·rw [B2 (dF hn)];obtain ⟨a,ha,a0,a1⟩:=A50 (F:=F) (r:=s.Rose) (x:=x-s.X) (y:=y-s.Y) (by omega) hs.rose (by omega) (by omega) hc;rw [ha,sbd];exact ⟨a,j,true,rfl,by omega,by omega⟩
theorem A3c {F:Nat} {s:api_Site} {t:Int} {g:api_Grid} {row:Int} (hF:200≤F) (hs:VS s) (hg:VG g) (ht:0≤t∧t≤256) (hr:0≤row∧row<64) (k2:List Int→Int→Option (List Int×Int)) :
  ∀(n:Nat) (m:Nat) (l:List Int) (c:Int),0≤c→c+m=g.Wide→m<n→l.length+m≤10000→∃l',Gn F s t g row k2 n l c=k2 l' (row+1)∧l'.length=l.length+m:=by
 have hw:=hg.wide;have hz:=hg.size;have hX:=hg.x;have hY:=hg.y;intro n
 induction n with
 | zero=>intro m l c _ _ h;omega
 | succ n ih =>
  intro m l c h0 h1 h2 h3;rw [Gn];unfold Lc
  by_cases hc:c<g.Wide
  ·have k1:=Lu (x:=c) (y:=g.Size) (A:=64) (B:=10000) (by omega) (by omega);have k2':=Lu (x:=row) (y:=g.Size) (A:=64) (B:=10000) (by omega) (by omega);rw [Bn (dT hc),ckb (by omega),ckb (by omega),Xh (by omega) (by omega) (by omega),ckb (by omega),ckb (by omega),ckb (by omega),Xh (by omega) (by omega) (by omega),ckb (by omega)];obtain ⟨a,j,b,hf,ha,hj⟩:=A27 (F:=F) (t:=t) (x:=g.X+c*g.Size+g.Size/2) (y:=g.Y+row*g.Size+g.Size/2) hF hs ht (by omega) (by omega);rw [hf,sbd];have hgt:=hs.gates;have k3:=Lu (x:=a) (y:=s.Gates) (A:=450) (B:=200) ha (by omega);have fin:∀v:Int,∃l',Hs l c (Gn F s t g row k2 n) v=k2 l' (row+1)∧l'.length=l.length+m:=by
    intro v;unfold Hs;rw [Kd (by simp;omega) (by decide),ckb (by omega)];obtain ⟨l',e,h⟩:=ih (m-1) (l++[v]) (c+1) (by omega) (by omega) (by omega) (by simp;omega);exact ⟨l',e,by rw [h];simp;omega⟩
   cases b with
   | true =>
    simp only [cond_true];rw [ckb (by omega),ckb (by omega)];exact fin _
   | false=>exact fin _
  ·rw [B2 (dF hc)];unfold Ld;rw [ckb (by omega)];exact ⟨l,rfl,by omega⟩
theorem A3b {F:Nat} {s:api_Site} {t:Int} {g:api_Grid} (hF:200≤F) (hs:VS s) (hg:VG g) (ht:0≤t∧t≤256) :
  ∀(n:Nat) (m:Nat) (l:List Int) (r:Int),0≤r→r+m=g.High→m<n→l.length+m*g.Wide.toNat≤5000→∃l',Gm F s t g n l r=some (l',0)∧l'.length=l.length+m*g.Wide.toNat:=by
 have hw:=hg.wide;have hh:=hg.high;intro n
 induction n with
 | zero=>intro m l c _ _ h;omega
 | succ n ih =>
  intro m l r h0 h1 h2 h3;rw [Gm];unfold Lb
  by_cases hc:r<g.High
  ·rw [Bn (dT hc)];obtain ⟨l',e,hl⟩:=A3c (F:=F) (s:=s) (t:=t) (g:=g) (row:=r) hF hs hg ht (by omega) (Gm F s t g n) F g.Wide.toNat l 0 (by omega) (by omega) (by omega) (by omega);rw [e];obtain ⟨k,rfl⟩:∃k,m=k+1:=⟨m-1,by omega⟩;rw [Nat.add_mul] at h3 ⊢;obtain ⟨l2,e2,hl2⟩:=ih k l' (r+1) (by omega) (by omega) (by omega) (by omega);exact ⟨l2,e2,by omega⟩
  ·rw [B2 (dF hc)];have:m=0:=by omega
   subst this;exact ⟨l,rfl,by simp⟩
theorem A1w {F:Nat} {s:api_Site} {t:Int} {g:api_Grid} (hF:200≤F) (hn:beam_CheckSite F s=some 0) (hs:VS s) (hg:VG g) (ht:0≤t∧t≤256) :
  ∃l,Ke F s t g=some (l,0)∧l.length=(g.Wide*g.High).toNat:=by
 have hw:=hg.wide;have hh:=hg.high;have k1:=Lu (x:=g.Wide) (y:=g.High) (A:=64) (B:=64) (by omega) (by omega);have k2:((g.High.toNat*g.Wide.toNat:Nat):Int)=g.Wide*g.High:=by
  rw [Int.natCast_mul,Int.toNat_of_nonneg (by omega),Int.toNat_of_nonneg (by omega),Int.mul_comm]
 unfold Ke;rw [hn,sbd,Qc hg,F6 ht];simp only [bne_self_eq_false,cond_false,Bool.not_true];rw [ckb (by omega),show mk0 8 (g.Wide*g.High)=some (g.Wide*g.High).toNat from by unfold mk0;rw [if_pos (by omega)],sbd];obtain ⟨l,e,hl⟩:=A3b (F:=F) (t:=t) hF hs hg ht F g.High.toNat [] 0 (by omega) (by omega) (by omega) (by simp;omega);exact ⟨l,e,by rw [hl];simp;omega⟩
end Go.Proofs.YtkbjbnkkfifbmaaGreat
namespace Go.Proofs.YtkbjbnkkfifbmaaGreat
open Go Go.RowKit Go.Eng
set_option maxRecDepth 10000
set_option linter.unusedVariables false
set_option linter.unusedSimpArgs false
theorem Qi {a b f:Int} (hb:0<b) (h1:f*b≤a) (h2:a<f*b+b):a/b=f:=by
 have g1:=Int.ediv_mul_le a (show b≠0 by omega);have g2:a<a/b*b+b:=by have:=Int.lt_ediv_add_one_mul_self a hb;rw [Int.add_mul] at this;omega
 rcases Int.lt_trichotomy (a/b) f with h|h|h
 ·have:=Int.mul_le_mul_of_nonneg_right (show a/b+1≤f by omega) (show 0≤b by omega);rw [Int.add_mul] at this;omega
 ·exact h
 ·have:=Int.mul_le_mul_of_nonneg_right (show f+1≤a/b by omega) (show 0≤b by omega);rw [Int.add_mul] at this;omega
theorem M3 (a b:Int) (hb:0<b):(0≤a∧a.tdiv b=a/b)∨(a<0∧a.tdiv b=-(-a/b)):=by
 rcases Int.lt_or_le a 0 with h|h
 ·right;refine ⟨h,?_⟩;have e:a=- -a:=by omega
  have:(- -a).tdiv b=-((-a).tdiv b):=Int.neg_tdiv (-a) b;rw [e,this,Int.tdiv_eq_ediv_of_nonneg (by omega),Int.neg_neg]
 ·exact .inl ⟨h,Int.tdiv_eq_ediv_of_nonneg h⟩
theorem Tr {a b A:Int} (hb:0<b) (ha:-A≤a∧a≤A):-A≤a.tdiv b∧a.tdiv b≤A:=by
 rcases M3 a b hb with ⟨h,e⟩|⟨h,e⟩
 ·rw [e];have:=Int.ediv_le_self b h;have:=Int.ediv_nonneg h (show 0≤b by omega);omega
 ·rw [e];have:=Int.ediv_le_self b (show 0≤-a by omega);have:=Int.ediv_nonneg (show 0≤-a by omega) (show 0≤b by omega);omega
theorem Fb (a:Int) {b:Int} (hb:0<b):a/b*b≤a∧a<a/b*b+b:=by
 refine ⟨Int.ediv_mul_le a (by omega),?_⟩;have:=Int.lt_ediv_add_one_mul_self a hb;rw [Int.add_mul] at this;omega
theorem Ud {F:Nat} {a b:Int} (hb:0<b) (ha:-1000000000000000000≤a∧a≤1000000000000000000):Kf F a b=some (a/b):=by
 have hq:=Tr hb ha;have hm:-2000000000000000000≤a.tdiv b*b∧a.tdiv b*b≤2000000000000000000:=by
  rcases M3 a b hb with ⟨h,e⟩|⟨h,e⟩
  ·have:=Fb a hb;have h0:0≤a/b*b:=Int.mul_nonneg (Int.ediv_nonneg h (by omega)) (by omega);rw [e];omega
  ·have:=Fb (-a) hb;have h0:0≤-a/b*b:=Int.mul_nonneg (Int.ediv_nonneg (by omega) (by omega)) (by omega);rw [e,Int.neg_mul];omega
 unfold Kf Nq;rw [if_neg (by omega),ckb (by omega),ckb (by omega)]
 by_cases hc:a.tdiv b*b>a
 ·rw [Bn (dT hc),ckb (by omega)];rcases M3 a b hb with ⟨h,e⟩|⟨h,e⟩
  ·have:=Fb a hb;rw [e] at hc;omega
  ·have hf:=Fb (-a) hb;rw [Qi (f:=a.tdiv b-1) hb]
   ·rw [e,Int.sub_mul,Int.neg_mul];omega
   ·rw [Int.sub_mul];omega
 ·rw [B2 (dF hc),Qi (f:=a.tdiv b) hb]
  ·omega
  ·rcases M3 a b hb with ⟨h,e⟩|⟨h,e⟩
   ·have:=Fb a hb;rw [e];omega
   ·have:=Fb (-a) hb;rw [e,Int.neg_mul] at hc ⊢;omega
theorem A1l {F:Nat} {a b:Int} (hb:0<b) (ha:-1000000000000000000≤a∧a≤1000000000000000000):Nc F a b=some (-(-a/b)):=by
 have hq:=Tr hb ha;have hm:-2000000000000000000≤a.tdiv b*b∧a.tdiv b*b≤2000000000000000000:=by
  rcases M3 a b hb with ⟨h,e⟩|⟨h,e⟩
  ·have:=Fb a hb;have h0:0≤a/b*b:=Int.mul_nonneg (Int.ediv_nonneg h (by omega)) (by omega);rw [e];omega
  ·have:=Fb (-a) hb;have h0:0≤-a/b*b:=Int.mul_nonneg (Int.ediv_nonneg (by omega) (by omega)) (by omega);rw [e,Int.neg_mul];omega
 unfold Nc Nq;rw [if_neg (by omega),ckb (by omega),ckb (by omega)]
 by_cases hc:a.tdiv b*b<a
 ·rw [Bn (dT hc),ckb (by omega)];rcases M3 a b hb with ⟨h,e⟩|⟨h,e⟩
  ·have hf:=Fb a hb;rw [Qi (f:=-(a.tdiv b+1)) hb]
   ·rw [Int.neg_neg]
   ·rw [e,Int.neg_mul,Int.add_mul];omega
   ·rw [Int.neg_mul,Int.add_mul];omega
  ·have:=Fb (-a) hb;rw [e,Int.neg_mul] at hc;omega
 ·rw [B2 (dF hc),Qi (f:=-(a.tdiv b)) hb]
  ·rw [Int.neg_neg]
  ·rw [Int.neg_mul];omega
  ·rcases M3 a b hb with ⟨h,e⟩|⟨h,e⟩
   ·have:=Fb a hb;rw [e] at hc ⊢;rw [Int.neg_mul];omega
   ·have:=Fb (-a) hb;rw [e,Int.neg_neg];omega
def gLo (L t:Int):Int:=L*(262144-t*t)/(2*(262144+t*t))
def gHi (L t:Int):Int:=-(-(L*(262144-t*t))/(2*(262144+t*t)))
def loZ (L t e:Int):Int:=L*(1024*t)/(2*(262144+t*t))+gLo L t*gLo L t/(2*e)
def hiZ (L t e:Int):Int:=-(-(L*(1024*t))/(2*(262144+t*t))) + -(-(gHi L t*gHi L t)/(2*e))
theorem Li {a b A:Int} (hb:0<b) (hA:0≤A) (ha:-(A*b)≤a∧a≤A*b):-A≤a/b∧a/b≤A:=by
 refine ⟨?_,Int.ediv_le_of_le_mul hb ha.2⟩;exact (Int.le_ediv_iff_mul_le hb).2 (by rw [Int.neg_mul];exact ha.1)
theorem gB {L t:Int} (hL:0≤L∧L≤1000000) (ht:-264≤t∧t≤264):(-1000000≤gLo L t∧gLo L t≤1000000)∧(-1000000≤gHi L t∧gHi L t≤1000000)∧(0≤L*(262144-t*t)∧L*(262144-t*t)≤1000000*262144)∧(-(1000000*270336)≤L*(1024*t)∧L*(1024*t)≤1000000*270336):=by
 have h1:=sqB ht;have h2:=Lu (x:=L) (y:=262144-t*t) (A:=1000000) (B:=262144) hL (by omega);have h3:=Up (x:=L) (y:=1024*t) (A:=1000000) (B:=270336) (by omega) (by omega);refine ⟨Li (by omega) (by omega) (by omega),?_,h2,h3⟩;have:=Li (a:=-(L*(262144-t*t))) (b:=2*(262144+t*t)) (A:=1000000) (by omega) (by omega) (by omega);unfold gHi;omega
theorem Wc {F:Nat} {s:api_Site} {t g:Int} (hs:1≤s.Step∧s.Step≤2000) (hg:0≤g∧g≤200) (ht:-264≤t∧t≤264):G8 F s t g=some (gLo ((2*g+1)*s.Step) t):=by
 have h1:=sqB ht;have h0:=Lu (x:=2*g+1) (y:=s.Step) (A:=401) (B:=2000) (by omega) (by omega);have h2:=gB (L:=(2*g+1)*s.Step) (t:=t) (by omega) ht;unfold G8;rw [Ly ht,sbd];unfold slt;dsimp only;rw [ckb (by omega),ckb (by omega),ckb (by omega),ckb (by omega),ckb (by omega),Ud (by omega) (by omega)];rfl
theorem Wd {F:Nat} {s:api_Site} {t g:Int} (hs:1≤s.Step∧s.Step≤2000) (hg:0≤g∧g≤200) (ht:-264≤t∧t≤264):G9 F s t g=some (gHi ((2*g+1)*s.Step) t):=by
 have h1:=sqB ht;have h0:=Lu (x:=2*g+1) (y:=s.Step) (A:=401) (B:=2000) (by omega) (by omega);have h2:=gB (L:=(2*g+1)*s.Step) (t:=t) (by omega) ht;unfold G9;rw [Ly ht,sbd];unfold slt;dsimp only;rw [ckb (by omega),ckb (by omega),ckb (by omega),ckb (by omega),ckb (by omega),A1l (by omega) (by omega)];rfl
theorem Xk {F:Nat} {s:api_Site} {t g e:Int} (hs:1≤s.Step∧s.Step≤2000) (hz:0≤s.Z∧s.Z≤20000) (hg:0≤g∧g≤200) (ht:-264≤t∧t≤264) (he:1000000≤e∧e≤100000000):H5 F s t g e=some (s.Z+loZ ((2*g+1)*s.Step) t e):=by
 have h1:=sqB ht;have h0:=Lu (x:=2*g+1) (y:=s.Step) (A:=401) (B:=2000) (by omega) (by omega);obtain ⟨g1,_,_,g4⟩:=gB (L:=(2*g+1)*s.Step) (t:=t) (by omega) ht;have h2:=Up (x:=gLo ((2*g+1)*s.Step) t) (y:=gLo ((2*g+1)*s.Step) t) (A:=1000000) (B:=1000000) g1 g1;have b1:=Li (a:=(2*g+1)*s.Step*(1024*t)) (b:=2*(262144+t*t)) (A:=1000000) (by omega) (by omega) (by omega);have b2:=Li (a:=gLo ((2*g+1)*s.Step) t*gLo ((2*g+1)*s.Step) t) (b:=2*e) (A:=1000000) (by omega) (by omega) (by omega);unfold H5;rw [Ly ht,sbd,Wc hs hg ht,sbd];unfold slt;dsimp only;rw [ckb (by omega),ckb (by omega),ckb (by omega),ckb (by omega),ckb (by omega),ckb (by omega),ckb (by omega),Ud (by omega) (by omega),sbd,ckb (by omega),Ud (by omega) (by omega),sbd,ckb (by omega),Int.add_assoc];rfl
theorem Xl {F:Nat} {s:api_Site} {t g e:Int} (hs:1≤s.Step∧s.Step≤2000) (hz:0≤s.Z∧s.Z≤20000) (hg:0≤g∧g≤200) (ht:-264≤t∧t≤264) (he:1000000≤e∧e≤100000000):H6 F s t g e=some (s.Z+hiZ ((2*g+1)*s.Step) t e):=by
 have h1:=sqB ht;have h0:=Lu (x:=2*g+1) (y:=s.Step) (A:=401) (B:=2000) (by omega) (by omega);obtain ⟨_,g1,_,g4⟩:=gB (L:=(2*g+1)*s.Step) (t:=t) (by omega) ht;have h2:=Up (x:=gHi ((2*g+1)*s.Step) t) (y:=gHi ((2*g+1)*s.Step) t) (A:=1000000) (B:=1000000) g1 g1;have b1:=Li (a:=-((2*g+1)*s.Step*(1024*t))) (b:=2*(262144+t*t)) (A:=1000000) (by omega) (by omega) (by omega);have b2:=Li (a:=-(gHi ((2*g+1)*s.Step) t*gHi ((2*g+1)*s.Step) t)) (b:=2*e) (A:=1000000) (by omega) (by omega) (by omega);unfold H6;rw [Ly ht,sbd,Wd hs hg ht,sbd];unfold slt;dsimp only;rw [ckb (by omega),ckb (by omega),ckb (by omega),ckb (by omega),ckb (by omega),ckb (by omega),ckb (by omega),A1l (by omega) (by omega),sbd,ckb (by omega),A1l (by omega) (by omega),sbd,ckb (by omega),Int.add_assoc];rfl
def VE (e:api_Span):Prop:=1000000≤e.Lo∧e.Lo≤e.Hi∧e.Hi≤100000000
def Zo (s:api_Site) (t:Int) (e:api_Span) (g:Int):api_Span:=⟨s.Z+loZ ((2*g+1)*s.Step) (t-s.Width) e.Hi,s.Z+hiZ ((2*g+1)*s.Step) (t+s.Width) e.Lo⟩
theorem A1u {F:Nat} {s:api_Site} {t g:Int} {e:api_Span} (hn:beam_CheckSite F s=some 0) (hs:VS s) (he:VE e) (ht:0≤t∧t≤256) (hg:0≤g∧g<s.Gates):Mr F s t e g=some (Zo s t e g,0):=by
 obtain ⟨e1,e2,e3⟩:=he;have h1:=hs.gates;have h2:=hs.step;have h3:=hs.width;have hv:Ft e=true:=by unfold Ft;rw [dT e1,dT e2,dT e3];rfl
 unfold Mr;rw [hn,sbd,F6 ht,hv];simp only [bne_self_eq_false,cond_false,Bool.not_true,Bool.and_true,beq_self_eq_true];rw [gdT rfl,ckb (by omega),F6 (by omega)];simp only [cond_false,Bool.not_true];rw [ckb (by omega),ckb (by omega),Xk (by omega) hs.z (by omega) (by omega) (by omega),sbd,Xl (by omega) hs.z (by omega) (by omega) (by omega),sbd];rfl
end Go.Proofs.YtkbjbnkkfifbmaaGreat
namespace Go.Proofs.YtkbjbnkkfifbmaaGreat
open Go Go.RowKit Go.Eng
set_option maxRecDepth 10000
set_option linter.unusedVariables false
set_option linter.unusedSimpArgs false
section
variable {κ ν:Type} [DecidableEq κ]
theorem Qr (B:List (κ×ν)) (k x:κ) (v:ν):lkM (upM B k v) x=if x=k then some v else lkM B x:=by
 induction B with
 | nil=>rfl
 | cons p B ih =>
  unfold upM
  by_cases h:k=p.1
  ·rw [if_pos h];unfold lkM;subst h
   by_cases hx:x=p.1
   ·rw [if_pos hx,if_pos hx]
   ·rw [if_neg hx,if_neg hx,if_neg hx]
  ·rw [if_neg h];unfold lkM
   by_cases hx:x=p.1
   ·rw [if_pos hx,if_neg (by rw [hx];exact fun e=>h e.symm),if_pos hx]
   ·rw [if_neg hx,ih]
    by_cases hk:x=k
    ·rw [if_pos hk,if_pos hk]
    ·rw [if_neg hk,if_neg hk,if_neg hx]
theorem Ye (B:List (κ×ν)) (k:κ) (v:ν):lkM (upM B k v) k=some v:=by rw [Qr,if_pos rfl]
theorem A0n {B:List (κ×ν)} {k:κ} {v:ν} (h:lkM B k=some v):(k,v)∈B:=by
 induction B with
 | nil=>cases h
 | cons p B ih =>
  unfold lkM at h
  by_cases hk:k=p.1
  ·rw [if_pos hk] at h;cases h;subst hk;exact .head _
  ·rw [if_neg hk] at h;exact .tail _ (ih h)
theorem X6 {B:List (κ×ν)} {k:κ}:(∃v,lkM B k=some v)↔k∈B.map (·.1):=by
 induction B with
 | nil=>simp [lkM]
 | cons p B ih =>
  unfold lkM
  by_cases hk:k=p.1
  ·simp [hk]
  ·rw [if_neg hk,ih];simp [hk]
theorem A5e {B:List (κ×ν)} {k:κ} {v:ν} {p:κ×ν} (h:p∈upM B k v):p=(k,v)∨p∈B:=by
 induction B with
 | nil=>simp [upM] at h;exact .inl h
 | cons q B ih =>
  unfold upM at h
  by_cases hk:k=q.1
  ·rw [if_pos hk] at h;rcases List.mem_cons.1 h with h|h
   ·exact .inl h
   ·exact .inr (.tail _ h)
  ·rw [if_neg hk] at h;rcases List.mem_cons.1 h with h|h
   ·exact .inr (h▸.head _)
   ·rcases ih h with h|h
    ·exact .inl h
    ·exact .inr (.tail _ h)
theorem A34 {B:List (κ×ν)} {k x:κ} {v:ν}:x∈(upM B k v).map (·.1)↔x=k∨x∈B.map (·.1):=by
 rw [←X6,←X6,Qr]
 by_cases h:x=k
 ·simp [h]
 ·simp [h]
theorem A1k {B:List (κ×ν)} {k:κ} {v:ν} (hn:(B.map (·.1)).Nodup):((upM B k v).map (·.1)).Nodup:=by
 induction B with
 | nil=>simp [upM]
 | cons q B ih =>
  rw [List.map_cons,List.nodup_cons] at hn;unfold upM
  by_cases hk:k=q.1
  ·rw [if_pos hk,List.map_cons,List.nodup_cons];subst hk;exact hn
  ·rw [if_neg hk,List.map_cons,List.nodup_cons];exact ⟨fun h=>(A34.1 h).elim (fun e=>hk e.symm) hn.1,ih hn.2⟩
end
def tot (B:List (mosaic_Key×List (List api_Span))):Nat:=(B.map fun p=>p.2.length).sum
def kl (B:List (mosaic_Key×List (List api_Span))) (k:mosaic_Key):List (List api_Span):=(lkM B k).getD []
theorem A5d (B:List (mosaic_Key×List (List api_Span))) (k:mosaic_Key) (l:List (List api_Span)):tot (upM B k l)+(kl B k).length=tot B+l.length:=by
 induction B with
 | nil=>simp [tot,upM,kl,lkM]
 | cons p B ih =>
  unfold upM kl lkM
  by_cases h:k=p.1
  ·rw [if_pos h,if_pos h];simp [tot];omega
  ·rw [if_neg h,if_neg h];have e1:∀C,tot (p::C)=p.2.length+tot C:=fun C=>by simp [tot]
   rw [e1,e1];have:((lkM B k).getD []).length=(kl B k).length:=rfl;omega
theorem A0k (B:List (mosaic_Key×List (List api_Span))) (k:mosaic_Key):(kl B k).length≤tot B:=by
 induction B with
 | nil=>simp [kl,lkM]
 | cons p B ih =>
  have e1:tot (p::B)=p.2.length+tot B:=by simp [tot]
  unfold kl lkM
  by_cases h:k=p.1
  ·rw [if_pos h,e1];simp
  ·rw [if_neg h,e1];have:((lkM B k).getD []).length=(kl B k).length:=rfl;omega
theorem X5 {B:List (mosaic_Key×List (List api_Span))} (h:∀p∈B,p.2≠[]):B.length≤tot B:=by
 induction B with
 | nil=>simp [tot]
 | cons p B ih =>
  have e1:tot (p::B)=p.2.length+tot B:=by simp [tot]
  have:=List.length_pos_iff.2 (h p (.head _));have:=ih fun q hq=>h q (.tail _ hq);rw [e1,List.length_cons];omega
def c3 (a b:Int):Int:=if a<b then -1 else if b<a then 1 else 0
def Kg (x y:api_Span):Int:=if c3 x.Lo y.Lo≠0 then c3 x.Lo y.Lo else c3 x.Hi y.Hi
def F3:List api_Span→List api_Span→Int
 | [],[]=>0
 | [],_::_=>-1
 | _::_,[]=>1
 | x::a,y::b=>if Kg x y≠0 then Kg x y else F3 a b
theorem Kc (a b:Int):Af a b=c3 a b:=by
 unfold Af D1 c3;simp only [bne_self_eq_false,cond_false]
 by_cases h1:a<b
 ·rw [dT h1,if_pos h1];rfl
 ·by_cases h2:b<a
  ·rw [dF h1,if_neg h1,if_pos h2,dT h2];rfl
  ·rw [dF h1,if_neg h1,if_neg h2,dF h2];rfl
def orL:List Int→Int
 | []=>0
 | x::l=>if x≠0 then x else orL l
theorem A4w (l:List Int):∀(n i:Nat),i≤l.length→l.length-i<n→l.length<1000000→Hb l n (i:Int)=some (orL (l.drop i)):=by
 intro n
 induction n with
 | zero=>intro i _ h;omega
 | succ n ih =>
  intro i hi hn hl;rw [Hb];unfold Kp
  by_cases hc:i<l.length
  ·rw [Bn (dT (by omega)),Dk i l[i] rfl (List.getElem?_eq_getElem hc),List.drop_eq_getElem_cons hc];unfold orL
   by_cases h:l[i]=0
   ·rw [B2 (by simpa using h),if_neg (by simpa using h),ckb (by omega)];exact ih (i+1) (by omega) (by omega) hl
   ·rw [Bn (by simpa using h),if_pos h]
  ·rw [B2 (dF (by omega)),List.drop_eq_nil_of_le (by omega)];rfl
theorem A3g {F:Nat} (l:List Int) (h:l.length<F) (h2:l.length<1000000):Ll F l=some (orL l):=by
 have:=A4w l F 0 (by omega) (by omega) h2;rw [List.drop_zero] at this;exact this
theorem A6z (a b:Int):orL [a,b]=if a≠0 then a else b:=by
 show (if a≠0 then a else if b≠0 then b else 0)=_
 split
 ·rfl
 ·split<;>omega
theorem Vg {F:Nat} (hF:100≤F) (x y:api_Span):Gj F x y=some (Kg x y):=by
 unfold Gj;rw [Kc,Kc,A3g _ (by simp;omega) (by simp),sbd,A6z];rfl
theorem A21 {F:Nat} (hF:100≤F) (a b:List api_Span) (ha:a.length<1000000):∀(n i:Nat),i≤a.length→a.length-i<n →
  Ae F a b n (i:Int)=some (if i≤b.length then F3 (a.drop i) (b.drop i) else if i<a.length then 1 else 0):=by
 intro n
 induction n with
 | zero=>intro i _ h;omega
 | succ n ih =>
  intro i hi hn;rw [Ae];unfold Aq
  by_cases hc:i<a.length
  ·rw [Bn (dT (by omega)),Dk i a[i] rfl (List.getElem?_eq_getElem hc)]
   by_cases hb:i<b.length
   ·rw [B2 (dF (by omega)),Dk i b[i] rfl (List.getElem?_eq_getElem hb),Vg hF,sbd,if_pos (by omega),List.drop_eq_getElem_cons hc,List.drop_eq_getElem_cons hb];unfold F3
    by_cases h:Kg a[i] b[i]=0
    ·rw [B2 (by simpa using h),if_neg (by simpa using h),ckb (by omega)];have:=ih (i+1) (by omega) (by omega);rw [if_pos (by omega)] at this;exact this
    ·rw [Bn (by simpa using h),if_pos h]
   ·rw [Bn (dT (by omega))]
    by_cases hb2:i≤b.length
    ·rw [if_pos hb2,List.drop_eq_nil_of_le (show b.length≤i by omega),List.drop_eq_getElem_cons hc];rfl
    ·rw [if_neg hb2,if_pos hc]
  ·rw [B2 (dF (by omega))];unfold Ar;have e:a.drop i=[]:=List.drop_eq_nil_of_le (by omega)
   by_cases hb:a.length<b.length
   ·rw [Bn (dT (by omega)),if_pos (by omega),e,List.drop_eq_getElem_cons (l:=b) (by omega)];rfl
   ·rw [B2 (dF (by omega))]
    by_cases hb2:i≤b.length
    ·rw [if_pos hb2,e,List.drop_eq_nil_of_le (show b.length≤i by omega)];rfl
    ·rw [if_neg hb2,if_neg hc]
theorem Sc {F:Nat} (hF:100≤F) (a b:List api_Span) (ha:a.length<F) (h2:a.length<1000000):Gi F a b=some (F3 a b):=by
 unfold Gi Aw;have:=A21 hF a b h2 F 0 (by omega) (by omega);rw [if_pos (by omega),List.drop_zero,List.drop_zero] at this;have e:Ae F a b F 0=some (F3 a b):=this;rw [e];rfl
theorem A6o {x:Int} (h:0≤x∧x≤9000000000000000000):IntKind.u64.wrap x=x:=by
 have:=h.1;have:=h.2;simp only [IntKind.wrap,IntKind.signed,IntKind.bits];simp;omega
theorem Xn {F:Nat} (hF:100≤F) (l:List (List api_Span)) (v:List api_Span) (hl:l.length<1000000) (hv:∀x∈l,x.length<F∧x.length<1000000):∀(n i j:Nat),i≤j→j≤l.length→j-i<n →
  ∃(r:Nat) (b:Bool),Ah F l v n (j:Int) (i:Int)=some ((r:Int),b)∧r≤l.length∧i≤r∧r≤j∧(b=true↔∃x,l[r]? = some x∧F3 x v=0)∧(r=i∨∃x,l[r-1]? = some x∧F3 x v<0)∧(r=j∨∃x,l[r]? = some x∧¬F3 x v<0):=by
 intro n
 induction n with
 | zero=>intro i j _ _ h;omega
 | succ n ih =>
  intro i j hij hj hn;rw [Ah];unfold Az
  by_cases hc:i<j
  ·have hm:(i+j)/2<l.length:=by omega
   rw [Bn (dT (by omega)),ckb (by omega),A6o (by omega),Int.fdiv_eq_ediv_of_nonneg _ (by omega),ckb (by omega),Dk ((i+j)/2) l[(i+j)/2] (by omega) (List.getElem?_eq_getElem hm)];obtain ⟨h1,h2⟩:=hv _ (List.getElem_mem hm);rw [Sc hF _ _ h1 h2,sbd]
   by_cases hlt:F3 l[(i+j)/2] v<0
   ·rw [Bn (dT hlt),ckb (by omega),show ((i:Int)+(j:Int))/2+1=(((i+j)/2+1:Nat):Int) by omega];obtain ⟨r,b,e,r1,r2,r3,r4,r5,r6⟩:=ih ((i+j)/2+1) j (by omega) hj (by omega);refine ⟨r,b,e,r1,by omega,r3,r4,.inr ?_,r6⟩;rcases r5 with h|h
    ·exact ⟨_,by rw [h,Nat.add_sub_cancel];exact List.getElem?_eq_getElem hm,hlt⟩
    ·exact h
   ·rw [B2 (dF hlt),show ((i:Int)+(j:Int))/2=(((i+j)/2:Nat):Int) by omega];obtain ⟨r,b,e,r1,r2,r3,r4,r5,r6⟩:=ih i ((i+j)/2) (by omega) (by omega) (by omega);refine ⟨r,b,e,r1,r2,by omega,r4,r5,.inr ?_⟩;rcases r6 with h|h
    ·exact ⟨_,by rw [h];exact List.getElem?_eq_getElem hm,hlt⟩
    ·exact h
  ·rw [B2 (dF (by omega))];unfold B0;have:i=j:=by omega
   subst this
   by_cases hi:i<l.length
   ·rw [Bn (dT (by omega)),Dk i l[i] rfl (List.getElem?_eq_getElem hi)];obtain ⟨h1,h2⟩:=hv _ (List.getElem_mem hi);rw [Sc hF _ _ h1 h2,sbd];refine ⟨i,_,rfl,hj,Nat.le_refl _,Nat.le_refl _,?_,.inl rfl,.inl rfl⟩;rw [List.getElem?_eq_getElem hi];simp
   ·rw [B2 (dF (by omega))];refine ⟨i,_,rfl,hj,Nat.le_refl _,Nat.le_refl _,?_,.inl rfl,.inl rfl⟩;rw [List.getElem?_eq_none (by omega)];simp
theorem A13 {F:Nat} (hF:100≤F) (N:mosaic_Node) (m:mosaic_Message) (hl:(kl N.kept m.Key).length<F∧(kl N.kept m.Key).length<1000000) (hv:∀x∈kl N.kept m.Key,x.length<F∧x.length<1000000) :
  ∃(r:Nat) (b:Bool),Cn F N m=some ((r:Int),b)∧r≤(kl N.kept m.Key).length∧(b=true↔∃x,(kl N.kept m.Key)[r]? = some x∧F3 x m.Vals=0)∧(r=0∨∃x,(kl N.kept m.Key)[r-1]? = some x∧F3 x m.Vals<0)∧(r=(kl N.kept m.Key).length∨∃x,(kl N.kept m.Key)[r]? = some x∧¬F3 x m.Vals<0):=by
 obtain ⟨r,b,e,r1,_,_,r4,r5,r6⟩:=Xn hF (kl N.kept m.Key) m.Vals hl.2 hv F 0 (kl N.kept m.Key).length (by omega) (Nat.le_refl _) (by omega);refine ⟨r,b,?_,r1,r4,r5,r6⟩;unfold Cn B7;have e':Ah F ((lkM N.kept m.Key).getD []) m.Vals F (((lkM N.kept m.Key).getD []).length:Int) 0=some ((r:Int),b):=e;rw [e'];rfl
end Go.Proofs.YtkbjbnkkfifbmaaGreat
namespace Go.Proofs.YtkbjbnkkfifbmaaGreat
open Go Go.RowKit Go.Eng
set_option maxRecDepth 10000
set_option linter.unusedVariables false
set_option linter.unusedSimpArgs false
def radM (s:mosaic_Spec):List (ByteArray×mosaic_Radar):=s.Radars.foldl (fun B r=>upM B r.Site.Name r) []
def pix (s:mosaic_Spec):Nat:=(s.Grid.Wide*s.Grid.High).toNat
structure GS (F:Nat) (s:mosaic_Spec):Prop where
 g:VG s.Grid
 e:VE s.Earth
 age:1≤s.Age∧s.Age≤86400
 small:pix s≤500
 r:∀n x,lkM (radM s) n=some x→VS x.Site∧beam_CheckSite F x.Site=some 0∧(-3600≤x.Offset.Lo∧x.Offset.Lo≤x.Offset.Hi∧x.Offset.Hi≤3600)∧n≠ByteArray.empty∧x.Site.Name=n
def okK (s:mosaic_Spec) (k:mosaic_Key):Prop:=(∃r,lkM (radM s) k.Name=some r)∧(0≤k.Tilt∧k.Tilt≤256)∧(0≤k.Time∧k.Time≤4294967296)
structure okM (s:mosaic_Spec) (m:mosaic_Message):Prop where
 key:okK s m.Key
 len:m.Vals.length=pix s
 vals:∀v∈m.Vals,0≤v.Lo∧v.Lo≤v.Hi∧v.Hi≤1000000
def Nr (F:Nat) (s:mosaic_Spec) (w:mosaic_where):List api_Span :=
 (((Ke F ((lkM (radM s) w.name).getD default).Site w.tilt s.Grid).getD ([],0)).1).map fun v=>if 0≤v then Zo ((lkM (radM s) w.name).getD default).Site w.tilt s.Earth (v.tmod ((lkM (radM s) w.name).getD default).Site.Gates) else ⟨1,0⟩
def LV (F:Nat) (s:mosaic_Spec) (L:List (mosaic_where×List api_Span)):Prop:=∀w l,lkM L w=some l→l=Nr F s w
structure NI (F:Nat) (s:mosaic_Spec) (N:mosaic_Node):Prop where
 spec:N.spec=s
 radars:N.radars=radM s
 nd:(N.kept.map (·.1)).Nodup
 ok:∀p∈N.kept,okK s p.1∧p.2≠[]∧∀v∈p.2,v.length=pix s
 count:N.count=(tot N.kept:Int)
 looks:LV F s N.looks
def Ny (l:List (List api_Span)) (r:Nat) (v:List api_Span):List (List api_Span):=l.take r++[v]++l.drop r
def J4 (N:mosaic_Node) (m:mosaic_Message) (r:Nat):mosaic_Node:=⟨N.spec,N.radars,N.horizon,upM N.kept m.Key (Ny (kl N.kept m.Key) r m.Vals),N.count+1,N.looks⟩
theorem Tf {l:List (List api_Span)} {r:Nat} {v:List api_Span} (h:r≤l.length):(Ny l r v).length=l.length+1:=by unfold Ny;simp;omega
theorem R8 {l:List (List api_Span)} {r:Nat} {v x:List api_Span}:x∈Ny l r v↔x=v∨x∈l:=by
 unfold Ny;rw [List.mem_append,List.mem_append,List.mem_singleton];constructor
 ·rintro ((h|h)|h)
  ·exact .inr (List.mem_of_mem_take h)
  ·exact .inl h
  ·exact .inr (List.mem_of_mem_drop h)
 ·rintro (h|h)
  ·exact .inl (.inr h)
  ·rw [←List.take_append_drop r l] at h;rcases List.mem_append.1 h with h|h
   ·exact .inl (.inl h)
   ·exact .inr h
theorem NI.kl_ok {F:Nat} {s:mosaic_Spec} {N:mosaic_Node} (h:NI F s N) (k:mosaic_Key):∀v∈kl N.kept k,v.length=pix s:=by
 intro v hv;unfold kl at hv
 cases e:lkM N.kept k with
 | none=>rw [e] at hv;cases hv
 | some l=>rw [e] at hv;exact (h.ok _ (A0n e)).2.2 v hv
theorem NI.put {F:Nat} {s:mosaic_Spec} {N:mosaic_Node} {m:mosaic_Message} {r:Nat} (h:NI F s N) (hm:okM s m) (hr:r≤(kl N.kept m.Key).length):NI F s (J4 N m r):=by
 refine ⟨h.spec,h.radars,A1k h.nd,?_,?_,h.looks⟩
 ·intro p hp;rcases A5e hp with rfl|hp
  ·refine ⟨hm.key,fun e=>?_,fun v hv=>?_⟩
   ·have:=Tf (v:=m.Vals) hr;have e':Ny (kl N.kept m.Key) r m.Vals=[]:=e;rw [e'] at this;simp at this
   ·rcases R8.1 hv with rfl|hv
    ·exact hm.len
    ·exact h.kl_ok _ v hv
  ·exact h.ok p hp
 ·have h1:=A5d N.kept m.Key (Ny (kl N.kept m.Key) r m.Vals);rw [Tf hr] at h1;show N.count+1=_;rw [h.count];show _=((tot (upM N.kept m.Key (Ny (kl N.kept m.Key) r m.Vals)):Nat):Int);omega
theorem Km {n a b:Int} (h:a≤n∧n≤b):Bs n a b=true:=by unfold Bs;rw [dT h.1,dT h.2];rfl
theorem Qm {v:api_Span} {a b:Int} (h:a≤v.Lo∧v.Lo≤v.Hi∧v.Hi≤b):C8 v a b=true:=by unfold C8;rw [dT h.1,dT h.2.1,dT h.2.2];rfl
theorem Ze {m:mosaic_Message} (hl:m.Vals.length<1000000) (hv:∀v∈m.Vals,0≤v.Lo∧v.Lo≤v.Hi∧v.Hi≤1000000):∀(n i:Nat),i≤m.Vals.length→m.Vals.length-i<n→C1 m n (i:Int)=some 0:=by
 intro n
 induction n with
 | zero=>intro i _ h;omega
 | succ n ih =>
  intro i hi hn;rw [C1];unfold Dx
  by_cases hc:i<m.Vals.length
  ·rw [Bn (dT (by omega)),Dk i m.Vals[i] rfl (List.getElem?_eq_getElem hc),Qm (hv _ (List.getElem_mem hc)),B2 (c:=!true) rfl,ckb (by omega)];exact ih (i+1) (by omega) (by omega)
  ·rw [B2 (dF (by omega))];rfl
theorem Xg {F:Nat} {s:mosaic_Spec} (h:GS F s):s.Grid.Wide*s.Grid.High=(pix s:Int)∧1≤pix s:=by
 have h1:=h.g.wide;have h2:=h.g.high;have h3:=Lu (x:=s.Grid.Wide) (y:=s.Grid.High) (A:=64) (B:=64) (by omega) (by omega);have h4:1*1≤s.Grid.Wide*s.Grid.High:=Int.mul_le_mul h1.1 h2.1 (by omega) (by omega);unfold pix;omega
theorem A1s {F:Nat} {s:mosaic_Spec} {N:mosaic_Node} {m:mosaic_Message} (hF:1000≤F) (hs:GS F s) (hN:NI F s N) (hm:okM s m):Dd F N m=some 0:=by
 obtain ⟨r,hr⟩:=hm.key.1;have h1:=Xg hs;have h2:=hs.small;unfold Dd;rw [hN.radars,hr,B2 (c:=!(some r).isSome) rfl,Km hm.key.2.1,Km hm.key.2.2,B2 (c:=bif !true then true else !true) rfl,hN.spec,ckb (by omega),B2 (by rw [hm.len,h1.1];simp)];exact Ze (by rw [hm.len];omega) hm.vals F 0 (by omega) (by rw [hm.len];omega)
theorem A15 {F:Nat} {s:mosaic_Spec} {N:mosaic_Node} {m:mosaic_Message} {r:Nat} {b:Bool} (hF:1000≤F) (hs:GS F s) (hN:NI F s N) (hm:okM s m) (hc:N.count<1000000) (hp:Cn F N m=some ((r:Int),b)) (hr:r≤(kl N.kept m.Key).length):Gk F N m=some (J4 N m r):=by
 have h2:=hs.small;have h3:=A0k N.kept m.Key;have h4:=hN.count;unfold Gk;rw [hp,sbd];unfold C6 Bc;rw [show (lkM N.kept m.Key).getD []=kl N.kept m.Key from rfl,Kd (by simp;omega) (by decide),List.nil_append,sbd,Kd (by rw [hm.len];simp;omega) (by decide),List.nil_append,sbd];unfold K6;rw [if_pos ⟨by omega,by omega,rfl,by omega⟩,sbd,ckb (by omega)];rfl
end Go.Proofs.YtkbjbnkkfifbmaaGreat
namespace Go.Proofs.YtkbjbnkkfifbmaaGreat
open Go Go.RowKit Go.Eng
set_option maxRecDepth 10000
set_option linter.unusedVariables false
set_option linter.unusedSimpArgs false
def ksN (N:mosaic_Node):List mosaic_Key:=Cp (N.kept.map (·.1))
def Ku (N:mosaic_Node):List mosaic_Message:=(ksN N).flatMap fun k=>(kl N.kept k).map (mosaic_Message.mk k)
theorem F4 (N:mosaic_Node):(ksN N).length=N.kept.length∧(ksN N).Perm (N.kept.map (·.1))∧(ksN N).Pairwise (fun x y=>¬KLt y x):=by
 obtain ⟨h1,h2,h3⟩:=Kz Gb R9 (N.kept.map (·.1));refine ⟨by unfold ksN Cp;rw [h1];simp,h2,h3.imp ?_⟩;intro x y h hlt;rw [(Qo y x).2 hlt] at h;cases h
theorem Un {N:mosaic_Node} {k:mosaic_Key}:k∈ksN N↔∃l,lkM N.kept k=some l:=by
 rw [(F4 N).2.1.mem_iff,X6]
theorem NI.small {F:Nat} {s:mosaic_Spec} {N:mosaic_Node} (h:NI F s N):(ksN N).length≤tot N.kept:=by
 rw [(F4 N).1];exact X5 fun p hp=>(h.ok p hp).2.1
theorem NI.key {F:Nat} {s:mosaic_Spec} {N:mosaic_Node} (h:NI F s N) {k:mosaic_Key} (hk:k∈ksN N):okK s k∧kl N.kept k≠[]:=by
 obtain ⟨l,hl⟩:=Un.1 hk;have:=h.ok _ (A0n hl);refine ⟨this.1,?_⟩;unfold kl;rw [hl];exact this.2.1
theorem Vt {F:Nat} {s:mosaic_Spec} {N:mosaic_Node} (h:NI F s N):(ksN N).Nodup:=(F4 N).2.1.nodup_iff.2 h.nd
theorem M5 {F:Nat} {N:mosaic_Node} (h:N.kept.length≤1000000):Dt F N=some (ksN N):=by unfold Dt;rw [if_pos h];rfl
theorem Zk {F:Nat} {N:mosaic_Node} {x:Int} {k2:Int→List mosaic_Message→Option (List mosaic_Message)} {k:mosaic_Key} (hv:∀v∈kl N.kept k,v.length≤10000) (hx:0≤x∧x≤1000000) (hk:(kl N.kept k).length≤1000) :
  ∀(n i:Nat) (acc:List mosaic_Message),i≤(kl N.kept k).length→(kl N.kept k).length-i<n→acc.length+((kl N.kept k).length-i)≤10000000→Dr F N x k2 k n (i:Int) acc=k2 (x+1) (acc++((kl N.kept k).drop i).map (mosaic_Message.mk k)):=by
 intro n
 induction n with
 | zero=>intro i acc _ h;omega
 | succ n ih =>
  intro i acc hi hn ha;rw [Dr];unfold G5;rw [show (lkM N.kept k).getD []=kl N.kept k from rfl]
  by_cases hc:i<(kl N.kept k).length
  ·have hl:=hv _ (List.getElem_mem hc);rw [Bn (dT (by omega)),Dk i (kl N.kept k)[i] rfl (List.getElem?_eq_getElem hc)];unfold Bc;rw [Kd (by simp;omega) (by decide),List.nil_append,sbd,Kd (by simp;omega) (by decide),ckb (by omega)];have:=ih (i+1) (acc++[mosaic_Message.mk k (kl N.kept k)[i]]) (by omega) (by omega) (by simp;omega);rw [List.append_assoc,List.singleton_append,←List.map_cons,←List.drop_eq_getElem_cons hc] at this;exact this
  ·rw [B2 (dF (by omega)),List.drop_eq_nil_of_le (by omega)];unfold G7;rw [ckb (by omega),List.map_nil,List.append_nil]
theorem Zl {F:Nat} {N:mosaic_Node} {L:List mosaic_Key} (hF:1000≤F) (hL:L.length≤1000) (hv:∀k,∀v∈kl N.kept k,v.length≤10000) (hk:∀k,(kl N.kept k).length<1000) :
  ∀(n i:Nat) (acc:List mosaic_Message),i≤L.length→L.length-i<n→acc.length+1000*(L.length-i)≤10000000→Cx F N L n (i:Int) acc=some (acc++(L.drop i).flatMap fun k=>(kl N.kept k).map (mosaic_Message.mk k)):=by
 intro n
 induction n with
 | zero=>intro i acc _ h;omega
 | succ n ih =>
  intro i acc hi hn ha;rw [Cx];unfold G4
  by_cases hc:i<L.length
  ·have h1:=hk L[i];rw [Bn (dT (by omega)),Dk i L[i] rfl (List.getElem?_eq_getElem hc)];have h2:=Zk (F:=F) (N:=N) (x:=i) (k2:=Cx F N L n) (k:=L[i]) (hv _) (by omega) (by omega) F 0 acc (by omega) (by omega) (by omega);rw [List.drop_zero] at h2;have h3:=ih (i+1) (acc++(kl N.kept L[i]).map (mosaic_Message.mk L[i])) (by omega) (by omega) (by simp;omega);rw [List.append_assoc,←List.flatMap_cons (f:=fun k=>(kl N.kept k).map (mosaic_Message.mk k)),←List.drop_eq_getElem_cons hc] at h3;exact h2.trans h3
  ·rw [B2 (dF (by omega)),List.drop_eq_nil_of_le (by omega)];unfold G6;rw [List.flatMap_nil,List.append_nil]
theorem S7 {F:Nat} {s:mosaic_Spec} {N:mosaic_Node} (hF:1000≤F) (hs:GS F s) (h:NI F s N) (ht:tot N.kept<900):E5 F N=some (Ku N):=by
 have h1:=h.small;have h2:=(F4 N).1;have h3:=hs.small;unfold E5;rw [M5 (by omega),sbd];have:=Zl (F:=F) (N:=N) (L:=ksN N) hF (by omega) (fun k v hv=>by rw [h.kl_ok k v hv];omega) (fun k=>by have:=A0k N.kept k;omega) F 0 [] (by omega) (by omega) (by simp;omega);rw [List.drop_zero,List.nil_append] at this;exact this
theorem Qd {F:Nat} {s:mosaic_Spec} {N:mosaic_Node} (h:NI F s N) (ht:tot N.kept<900):F1 F N=some ((ksN N).filter fun k=>decide (2≤(kl N.kept k).length)):=by
 have h1:=h.small;have h2:=(F4 N).1;unfold F1;rw [if_pos (by omega)];show some ((ksN N).filter _)=_
 congr 1
 apply List.filter_congr;intro k _;show (!decide (((kl N.kept k).length:Int)<2))=_
 by_cases hk:2≤(kl N.kept k).length
 ·rw [dT hk,dF (by omega)];rfl
 ·rw [dF hk,dT (by omega)];rfl
theorem A0u {N:mosaic_Node} {m:mosaic_Message}:m∈Ku N↔m.Vals∈kl N.kept m.Key:=by
 unfold Ku;rw [List.mem_flatMap];constructor
 ·rintro ⟨k,_,hm⟩;obtain ⟨v,hv,rfl⟩:=List.mem_map.1 hm;exact hv
 ·intro hv;refine ⟨m.Key,?_,List.mem_map.2 ⟨m.Vals,hv,rfl⟩⟩;rw [Un];unfold kl at hv
  cases e:lkM N.kept m.Key with
  | none=>rw [e] at hv;cases hv
  | some l=>exact ⟨l,rfl⟩
end Go.Proofs.YtkbjbnkkfifbmaaGreat
namespace Go.Proofs.YtkbjbnkkfifbmaaGreat
open Go Go.RowKit Go.Eng
set_option maxRecDepth 10000
set_option linter.unusedVariables false
set_option linter.unusedSimpArgs false
theorem Sn {α:Type} {x d:α}:(some x).getD d=x:=rfl
def Rk (s:mosaic_Spec) (t:Int) (r:mosaic_Radar) (v:Int):api_Span:=if 0≤v then Zo r.Site t s.Earth (v.tmod r.Site.Gates) else ⟨1,0⟩
theorem A0o {F:Nat} {s:mosaic_Spec} {N:mosaic_Node} {k:mosaic_Key} {r:mosaic_Radar} {V:List Int} (hs:GS F s) (hsp:N.spec=s) (hr:N.radars=radM s) (hk:okK s k) (hrk:lkM (radM s) k.Name=some r) (hV:V.length≤1000) :
  ∀(n i:Nat) (acc:List api_Span),i≤V.length→V.length-i<n→acc.length≤i→Cm F N k (V,0) n acc (i:Int)=some (acc++(V.drop i).map (Rk s k.Tilt r),upM N.looks ⟨k.Name,k.Tilt⟩ (acc++(V.drop i).map (Rk s k.Tilt r))):=by
 obtain ⟨v1,v2,_,_,_⟩:=hs.r _ _ hrk;have hg:=v1.gates;intro n
 induction n with
 | zero=>intro i acc _ h;omega
 | succ n ih =>
  intro i acc hi hn ha;rw [Cm];unfold Fp;rw [show (V,(0:Int)).1=V from rfl]
  by_cases hc:i<V.length
  ·have fin:∀b:api_Span,b=Rk s k.Tilt r V[i]→Dh acc i (Cm F N k (V,0) n) b.Lo b.Hi=some (acc++(V.drop i).map (Rk s k.Tilt r),upM N.looks ⟨k.Name,k.Tilt⟩ (acc++(V.drop i).map (Rk s k.Tilt r))):=by
    intro b hb;unfold Dh;rw [Kd (by simp;omega) (by decide),ckb (by omega)];have:=ih (i+1) (acc++[b]) (by omega) (by omega) (by simp;omega);rw [List.append_assoc,List.singleton_append,hb,←List.map_cons,←List.drop_eq_getElem_cons hc] at this;rw [hb];exact this
   rw [Bn (dT (by omega)),Dk i V[i] rfl (List.getElem?_eq_getElem hc),hr,hrk,Sn]
   by_cases hv:V[i]≥0
   ·have e1:F2 V[i] r.Site.Gates=some (V[i].tmod r.Site.Gates):=by unfold F2;rw [if_neg (by omega)]
    have h0:=Int.tmod_nonneg r.Site.Gates hv;have h1:=Int.tmod_lt_of_pos V[i] (show 0<r.Site.Gates by omega);rw [Bn (dT hv),e1,sbd,hsp,show (api_Site.mk r.Site.Name r.Site.X r.Site.Y r.Site.Z r.Site.Rose r.Site.Gates r.Site.Step r.Site.Width)=r.Site from rfl,A1u v2 v1 hs.e hk.2.1 ⟨h0,h1⟩,sbd];exact fin _ (by unfold Rk;rw [if_pos hv])
   ·rw [B2 (dF hv)];exact fin ⟨1,0⟩ (by unfold Rk;rw [if_neg (by omega)])
  ·rw [B2 (dF (by omega)),List.drop_eq_nil_of_le (by omega)];unfold Fq;rw [List.map_nil,List.append_nil]
theorem Tb {F:Nat} {s:mosaic_Spec} {k:mosaic_Key} {r:mosaic_Radar} (hF:200≤F) (hs:GS F s) (hk:okK s k) (hrk:lkM (radM s) k.Name=some r) :
  ∃V,Ke F r.Site k.Tilt s.Grid=some (V,0)∧V.length=pix s∧Nr F s ⟨k.Name,k.Tilt⟩=V.map (Rk s k.Tilt r):=by
 obtain ⟨v1,v2,_,_,_⟩:=hs.r _ _ hrk;obtain ⟨V,e,hl⟩:=A1w (F:=F) hF v2 v1 hs.g hk.2.1;refine ⟨V,e,hl,?_⟩;unfold Nr;dsimp only;rw [hrk,Sn,e,Sn];rfl
theorem Wv {F:Nat} {s:mosaic_Spec} {k:mosaic_Key} (hF:200≤F) (hs:GS F s) (hk:okK s k):(Nr F s ⟨k.Name,k.Tilt⟩).length=pix s:=by
 obtain ⟨r,hr⟩:=hk.1;obtain ⟨V,_,hl,e⟩:=Tb hF hs hk hr;rw [e,List.length_map,hl]
theorem A2g {F:Nat} {s:mosaic_Spec} {N:mosaic_Node} {k:mosaic_Key} (hF:1000≤F) (hs:GS F s) (hsp:N.spec=s) (hr:N.radars=radM s) (hl:LV F s N.looks) (hk:okK s k) :
  ∃L,Fo F N k=some (Nr F s ⟨k.Name,k.Tilt⟩,L)∧LV F s L:=by
 obtain ⟨r,hrk⟩:=hk.1;obtain ⟨V,e,hV,eb⟩:=Tb (F:=F) (by omega) hs hk hrk;have h2:=hs.small;unfold Fo
 cases hq:lkM N.looks (mosaic_where.mk k.Name k.Tilt) with
 | some l =>
  rw [Bn (c:=(some l).isSome) rfl,Sn,hl _ _ hq];exact ⟨_,rfl,hl⟩
 | none =>
  rw [B2 (c:=(none:Option (List api_Span)).isSome) rfl,hr,hrk,Sn,hsp,show (api_Site.mk r.Site.Name r.Site.X r.Site.Y r.Site.Z r.Site.Rose r.Site.Gates r.Site.Step r.Site.Width)=r.Site from rfl,e,sbd];have:=A0o (F:=F) hs hsp hr hk hrk (V:=V) (by omega) F 0 [] (by omega) (by omega) (by simp);rw [List.drop_zero,List.nil_append,←eb] at this;refine ⟨_,this,?_⟩;intro w l hw;rw [Qr] at hw
  by_cases h:w=mosaic_where.mk k.Name k.Tilt
  ·rw [if_pos h] at hw;cases hw;rw [h]
  ·rw [if_neg h] at hw;exact hl _ _ hw
def A2n (s:mosaic_Spec) (k:mosaic_Key):api_Span:=((lkM (radM s) k.Name).getD default).Offset
def Ln (s:mosaic_Spec) (N:mosaic_Node) (t:Int) (k:mosaic_Key):Bool:=decide ((kl N.kept k).length=1∧k.Time+(A2n s k).Hi≤t∧t-k.Time-(A2n s k).Lo≤s.Age)
def whK (k:mosaic_Key):mosaic_where:=⟨k.Name,k.Tilt⟩
def Rw (s:mosaic_Spec) (N:mosaic_Node) (t:Int) (B:List (mosaic_where×mosaic_Key)) (L:List mosaic_Key):List (mosaic_where×mosaic_Key):=L.foldl (fun B k=>if Ln s N t k then upM B (whK k) k else B) B
def Tg (B:List (mosaic_where×mosaic_Key)) (k:mosaic_Key):Bool:=decide (lkM B (whK k)=some k)
def Dj (F:Nat) (s:mosaic_Spec) (N:mosaic_Node) (k:mosaic_Key):mosaic_used:=⟨k,((kl N.kept k)[0]?).getD [],Nr F s (whK k)⟩
theorem baE (a b:ByteArray):(a==b)=true↔a=b:=by
 obtain ⟨a⟩:=a;obtain ⟨b⟩:=b;constructor
 ·intro h;have:(a==b)=true:=h;rw [beq_iff_eq] at this;rw [this]
 ·intro h
  cases h
  exact (beq_self_eq_true a:_)
theorem A4c (x k:mosaic_Key):((x.Name==k.Name)&&(((x.Tilt:Int)==k.Tilt)&&(((x.Time:Int)==k.Time)&&true)))=decide (x=k):=by
 obtain ⟨n,t,u⟩:=x;obtain ⟨n',t',u'⟩:=k;dsimp only
 by_cases h:n=n'∧t=t'∧u=u'
 ·obtain ⟨rfl,rfl,rfl⟩:=h;rw [(baE n n).2 rfl];simp
 ·rw [dF (by simpa using h)]
  cases h1:(n==n') with
  | false=>rfl
  | true =>
   cases h2:(t==t') with
   | false=>rfl
   | true =>
    cases h3:(u==u') with
    | false=>rfl
    | true=>exact absurd ⟨(baE _ _).1 h1,by simpa using h2,by simpa using h3⟩ h
theorem A1m {F:Nat} {s:mosaic_Spec} {N:mosaic_Node} {B:List (mosaic_where×mosaic_Key)} {L:List mosaic_Key} (hF:1000≤F) (hs:GS F s) (h:NI F s N) (hL:∀k∈L,okK s k∧kl N.kept k≠[]) (hl:L.length≤10000) :
  ∀(n i:Nat) (lk:List (mosaic_where×List api_Span)) (acc:List mosaic_used),i≤L.length→L.length-i<n→acc.length≤i→LV F s lk →
   ∃lk',Db F N B L n lk (i:Int) acc=some (acc++((L.drop i).filter (Tg B)).map (Dj F s N),lk')∧LV F s lk':=by
 intro n
 induction n with
 | zero=>intro i lk acc _ h;omega
 | succ n ih =>
  intro i lk acc hi hn ha hlk;rw [Db];unfold Gv
  by_cases hc:i<L.length
  ·obtain ⟨hk,hne⟩:=hL _ (List.getElem_mem hc);rw [Bn (dT (by omega)),Dk i L[i] rfl (List.getElem?_eq_getElem hc),List.drop_eq_getElem_cons hc,A4c];have hx:decide ((lkM B (mosaic_where.mk L[i].Name L[i].Tilt)).getD (mosaic_Key.mk ByteArray.empty 0 0)=L[i])=Tg B L[i]:=by
    unfold Tg whK
    cases e:lkM B (mosaic_where.mk L[i].Name L[i].Tilt) with
    | some x=>rw [Sn];congr 1;simp
    | none =>
     rw [dF,dF]
     ·simp
     ·intro e0;obtain ⟨r,hr⟩:=hk.1;have:(ByteArray.empty)=L[i].Name:=congrArg (·.Name) e0;exact (hs.r _ _ hr).2.2.2.1 this.symm
   rw [hx]
   cases hb:Tg B L[i] with
   | true =>
    obtain ⟨lk',e,hlk'⟩:=A2g (N:=mosaic_Node.mk N.spec N.radars N.horizon N.kept N.count lk) hF hs h.spec h.radars hlk hk;obtain ⟨v,vs,hv⟩:=List.exists_cons_of_ne_nil hne;rw [cond_true,show (lkM N.kept L[i]).getD []=kl N.kept L[i] from rfl,Dk (l:=kl N.kept L[i]) (i:=0) 0 v rfl (by rw [hv];rfl),e,sbd,Kd (by simp;omega) (by decide)];unfold E7;rw [ckb (by omega),List.filter_cons_of_pos (by exact hb)];obtain ⟨lk2,e2,h2⟩:=ih (i+1) lk' (acc++[Dj F s N L[i]]) (by omega) (by omega) (by simp;omega) hlk';refine ⟨lk2,?_,h2⟩;rw [List.append_assoc,List.singleton_append] at e2;have eu:mosaic_used.mk L[i] v (Nr F s ⟨L[i].Name,L[i].Tilt⟩)=Dj F s N L[i]:=by unfold Dj whK;rw [hv];rfl
    show Db F N B L n lk' _ (acc++[mosaic_used.mk L[i] v (Nr F s ⟨L[i].Name,L[i].Tilt⟩)])=_;rw [eu];exact e2
   | false =>
    rw [cond_false];unfold E7;rw [ckb (by omega),List.filter_cons_of_neg (by rw [hb];decide)];exact ih (i+1) lk acc (by omega) (by omega) (by omega) hlk
  ·rw [B2 (dF (by omega)),List.drop_eq_nil_of_le (by omega)];exact ⟨lk,by simp [Gx],hlk⟩
theorem A2l {F:Nat} {s:mosaic_Spec} {N:mosaic_Node} {t:Int} {L:List mosaic_Key} (hs:GS F s) (h:NI F s N) (ht:0≤t∧t≤1000000000000) (hL:∀k∈L,okK s k) (hl:L.length≤10000) :
  ∀(n i:Nat) (B:List (mosaic_where×mosaic_Key)),i≤L.length→L.length-i<n→Dc F N t L n B (i:Int)=E6 F N (Rw s N t B (L.drop i)):=by
 intro n
 induction n with
 | zero=>intro i B _ h;omega
 | succ n ih =>
  intro i B hi hn;rw [Dc];unfold Gw
  by_cases hc:i<L.length
  ·have hk:=hL _ (List.getElem_mem hc);obtain ⟨r,hr⟩:=hk.1;obtain ⟨_,_,ho,_,_⟩:=hs.r _ _ hr;have htm:=hk.2.2;have hag:=hs.age;have eo:A2n s L[i]=r.Offset:=by unfold A2n;rw [hr];rfl
   rw [Bn (dT (by omega)),Dk i L[i] rfl (List.getElem?_eq_getElem hc),List.drop_eq_getElem_cons hc,h.radars,hr,Sn,show (lkM N.kept L[i]).getD []=kl N.kept L[i] from rfl,h.spec];have fin:∀C,E8 (i:Int) (Dc F N t L n) C=E6 F N (Rw s N t C (L.drop (i+1))):=by
    intro C;unfold E8;rw [ckb (by omega)];exact ih (i+1) C (by omega) (by omega)
   have step:Rw s N t B (L[i]::L.drop (i+1))=Rw s N t (if Ln s N t L[i] then upM B (whK L[i]) L[i] else B) (L.drop (i+1)):=rfl;rw [step]
   by_cases h1:(kl N.kept L[i]).length=1
   ·rw [h1,show (((1:Nat):Int)==1)=true from rfl,gdT (g:=(true==true&&true)) rfl,ckb (by omega)]
    by_cases h2:L[i].Time+r.Offset.Hi≤t
    ·rw [dT h2,gdT (g:=((bif true then true else false)==true&&true)) rfl,ckb (by omega),gdT (g:=((bif true then true else false)==true&&true)) rfl,ckb (by omega)]
     by_cases h3:t-L[i].Time-r.Offset.Lo≤s.Age
     ·rw [dT h3,Bn (c:=bif (bif true then true else false) then true else false) rfl,fin];have hf:Ln s N t L[i]=true:=by unfold Ln;rw [eo];exact dT ⟨h1,h2,h3⟩
      rw [hf,if_pos rfl];rfl
     ·rw [dF h3,B2 (c:=bif (bif true then true else false) then false else false) rfl,fin];have hf:Ln s N t L[i]=false:=by unfold Ln;rw [eo];exact dF fun x=>h3 x.2.2
      rw [hf];rfl
    ·rw [dF h2,gdF (g:=((bif true then false else false)==true&&true)) rfl,sbd,gdF (g:=((bif true then false else false)==true&&true)) rfl,sbd,B2 (c:=bif (bif true then false else false) then _ else false) rfl,fin];have hf:Ln s N t L[i]=false:=by unfold Ln;rw [eo];exact dF fun x=>h2 x.2.1
     rw [hf];rfl
   ·have e1:((((kl N.kept L[i]).length:Nat):Int)==1)=false:=by
     have:¬(((kl N.kept L[i]).length:Nat):Int)=1:=by omega
     simpa using this
    rw [e1,gdF (g:=(false==true&&true)) rfl,sbd,gdF (g:=((bif false then _ else false)==true&&true)) rfl,sbd,gdF (g:=((bif false then _ else false)==true&&true)) rfl,sbd,B2 (c:=bif (bif false then _ else false) then _ else false) rfl,fin];have hf:Ln s N t L[i]=false:=by unfold Ln;exact dF fun x=>h1 x.1
    rw [hf];rfl
  ·rw [B2 (dF (by omega)),List.drop_eq_nil_of_le (by omega)];rfl
def K8 (s:mosaic_Spec) (N:mosaic_Node) (t:Int):List mosaic_Key:=(ksN N).filter (Tg (Rw s N t [] (ksN N)))
theorem A3i {F:Nat} {s:mosaic_Spec} {N:mosaic_Node} {t:Int} (hF:1000≤F) (hs:GS F s) (h:NI F s N) (hn:tot N.kept<900) (ht:0≤t∧t≤1000000000000) :
  ∃L,Fe F N t=some ((K8 s N t).map (Dj F s N),L)∧LV F s L:=by
 have h1:=h.small;have h2:=(F4 N).1;unfold Fe;rw [M5 (by omega),sbd];have e:=A2l (F:=F) (N:=N) (t:=t) (L:=ksN N) hs h ht (fun k hk=>(h.key hk).1) (by omega) F 0 [] (by omega) (by omega);rw [List.drop_zero] at e;obtain ⟨L,e2,hL⟩:=A1m (B:=Rw s N t [] (ksN N)) hF hs h (L:=ksN N) (fun k hk=>h.key hk) (by omega) F 0 N.looks [] (by omega) (by omega) (by simp) h.looks;rw [List.drop_zero,List.nil_append] at e2;refine ⟨L,?_,hL⟩;refine e.trans ?_;unfold E6;rw [M5 (by omega),sbd];exact e2
theorem A2k {F:Nat} {s:mosaic_Spec} {N:mosaic_Node} {t:Int}:∀(L:List mosaic_Key) (B:List (mosaic_where×mosaic_Key)) (w:mosaic_where),L.Pairwise (fun x y=>¬KLt y x) →
  (∀k,lkM B w=some k→whK k=w∧∀k'∈L,¬KLt k' k) →
  (∀k,lkM (Rw s N t B L) w=some k→whK k=w∧(lkM B w=some k∨(k∈L∧Ln s N t k=true))∧∀k'∈L,Ln s N t k'=true→whK k'=w→¬KLt k k') ∧
  (lkM (Rw s N t B L) w=none→lkM B w=none∧∀k'∈L,Ln s N t k'=true→whK k'≠w):=by
 intro L
 induction L with
 | nil=>intro B w _ hB;exact ⟨fun k hk=>⟨(hB k hk).1,.inl hk,fun _ h=>by cases h⟩,fun hk=>⟨hk,fun _ h=>by cases h⟩⟩
 | cons x L ih =>
  intro B w hp hB;obtain ⟨hx,hp⟩:=List.pairwise_cons.1 hp;have e:Rw s N t B (x::L)=Rw s N t (if Ln s N t x then upM B (whK x) x else B) L:=rfl;rw [e]
  by_cases hf:Ln s N t x=true∧whK x=w
  ·obtain ⟨hf,hw⟩:=hf;have hlk:lkM (upM B (whK x) x) w=some x:=by rw [←hw,Ye]
   rw [hf,if_pos rfl];obtain ⟨i1,i2⟩:=ih (upM B (whK x) x) w hp (fun k hk=>by rw [hlk] at hk;cases hk;exact ⟨hw,hx⟩)
   constructor
   ·intro k hk;obtain ⟨a1,a2,a3⟩:=i1 k hk;refine ⟨a1,?_,?_⟩
    ·rcases a2 with a2|a2
     ·rw [hlk] at a2;cases a2;exact .inr ⟨.head _,hf⟩
     ·exact .inr ⟨.tail _ a2.1,a2.2⟩
    ·intro k' hk' hfk hwk;rcases List.mem_cons.1 hk' with rfl|hk'
     ·rcases a2 with a2|a2
      ·rw [hlk] at a2;cases a2;exact Ul _
      ·exact hx _ a2.1
     ·exact a3 k' hk' hfk hwk
   ·intro hk;have:=(i2 hk).1;rw [hlk] at this;cases this
  ·have hlk:lkM (if Ln s N t x then upM B (whK x) x else B) w=lkM B w:=by
    by_cases hfx:Ln s N t x=true
    ·rw [hfx,if_pos rfl,Qr,if_neg (fun e=>hf ⟨hfx,e.symm⟩)]
    ·rw [if_neg hfx]
   obtain ⟨i1,i2⟩:=ih (if Ln s N t x then upM B (whK x) x else B) w hp (fun k hk=>by rw [hlk] at hk;exact ⟨(hB k hk).1,fun k' hk'=>(hB k hk).2 k' (.tail _ hk')⟩);constructor
   ·intro k hk;obtain ⟨a1,a2,a3⟩:=i1 k hk;refine ⟨a1,?_,?_⟩
    ·rcases a2 with a2|a2
     ·rw [hlk] at a2;exact .inl a2
     ·exact .inr ⟨.tail _ a2.1,a2.2⟩
    ·intro k' hk' hfk hwk;rcases List.mem_cons.1 hk' with rfl|hk'
     ·exact absurd ⟨hfk,hwk⟩ hf
     ·exact a3 k' hk' hfk hwk
   ·intro hk;obtain ⟨b1,b2⟩:=i2 hk;rw [hlk] at b1;refine ⟨b1,fun k' hk' hfk hwk=>?_⟩;rcases List.mem_cons.1 hk' with rfl|hk'
    ·exact hf ⟨hfk,hwk⟩
    ·exact b2 k' hk' hfk hwk
theorem Vs {x y:mosaic_Key} (hw:whK x=whK y):KLt x y↔x.Time<y.Time:=by
 obtain ⟨n,t,u⟩:=x;obtain ⟨n',t',u'⟩:=y;simp only [whK,mosaic_where.mk.injEq] at hw;obtain ⟨rfl,rfl⟩:=hw;unfold KLt;constructor
 ·rintro (h|⟨_,h|⟨_,h⟩⟩)
  ·exact h
  ·exact absurd h (Q4 _)
  ·exact absurd h (Int.lt_irrefl _)
 ·exact .inl
theorem A38 {s:mosaic_Spec} {N:mosaic_Node} {t:Int} {k:mosaic_Key}:k∈K8 s N t↔k∈ksN N∧Ln s N t k=true∧∀k'∈ksN N,Ln s N t k'=true→whK k'=whK k→k'.Time≤k.Time:=by
 have hn:=A2k (F:=0) (s:=s) (N:=N) (t:=t) (ksN N) [] (whK k) (F4 N).2.2 (fun k hk=>by cases hk)
 unfold K8;rw [List.mem_filter];unfold Tg;rw [decide_eq_true_iff];constructor
 ·rintro ⟨h1,h2⟩;obtain ⟨_,a2,a3⟩:=hn.1 k h2;refine ⟨h1,?_,fun k' hk' hf hw=>?_⟩
  ·rcases a2 with a2|a2
   ·cases a2
   ·exact a2.2
  ·have:=a3 k' hk' hf hw;rw [Vs hw.symm] at this;omega
 ·rintro ⟨h1,h2,h3⟩;refine ⟨h1,?_⟩
  cases e:lkM (Rw s N t [] (ksN N)) (whK k) with
  | none=>exact absurd rfl ((hn.2 e).2 k h1 h2)
  | some x =>
   obtain ⟨a1,a2,a3⟩:=hn.1 x e;rcases a2 with a2|a2
   ·cases a2
   ·have b1:=h3 x a2.1 a2.2 a1;have b2:=a3 k h1 h2 rfl;rw [Vs a1] at b2
    congr 1
    obtain ⟨n,t,u⟩:=x;obtain ⟨n',t',u'⟩:=k;simp only [whK,mosaic_where.mk.injEq] at a1;obtain ⟨rfl,rfl⟩:=a1;have:u=u':=by
     simp only at b1 b2;omega
    rw [this]
end Go.Proofs.YtkbjbnkkfifbmaaGreat
namespace Go.Proofs.YtkbjbnkkfifbmaaGreat
open Go Go.RowKit Go.Eng
set_option maxRecDepth 10000
set_option linter.unusedVariables false
set_option linter.unusedSimpArgs false
structure C3 {α:Type} (c:α→α→Int):Prop where
 tr:∀x y z,c x y<0→c y z<0→c x z<0
 e1:∀x y z,c x y=0→c x z=c y z
 e2:∀x y z,c y z=0→c x y=c x z
 rf:∀x,c x x=0
 ay:∀x y,c x y<0∨c x y=0∨c y x<0
def Ra {α:Type} (c d:α→α→Int) (x y:α):Int:=if c x y≠0 then c x y else d x y
theorem Qq {α:Type} {c d:α→α→Int} (hc:C3 c) (hd:C3 d):C3 (Ra c d):=by
 refine ⟨fun x y z=>?_,fun x y z=>?_,fun x y z=>?_,fun x=>?_,fun x y=>?_⟩
 ·unfold Ra;intro h1 h2
  by_cases a:c x y=0
  ·rw [if_neg (by simpa using a)] at h1;have e:=hc.e1 x y z a;rw [e]
   by_cases b:c y z=0
   ·rw [if_neg (by simpa using b)] at h2 ⊢;exact hd.tr x y z h1 h2
   ·rw [if_pos b] at h2 ⊢;exact h2
  ·rw [if_pos a] at h1
   by_cases b:c y z=0
   ·have e:=hc.e2 x y z b;rw [←e,if_pos a];exact h1
   ·rw [if_pos b] at h2;have:=hc.tr x y z h1 h2;rw [if_pos (by omega)];exact this
 ·unfold Ra;intro h1
  by_cases a:c x y=0
  ·rw [if_neg (by simpa using a)] at h1;rw [hc.e1 x y z a,hd.e1 x y z h1]
  ·rw [if_pos a] at h1;exact absurd h1 a
 ·unfold Ra;intro h1
  by_cases a:c y z=0
  ·rw [if_neg (by simpa using a)] at h1;rw [hc.e2 x y z a,hd.e2 x y z h1]
  ·rw [if_pos a] at h1;exact absurd h1 a
 ·unfold Ra;rw [if_neg (by simpa using hc.rf x),hd.rf]
 ·unfold Ra;rcases hc.ay x y with h|h|h
  ·left;rw [if_pos (by omega)];exact h
  ·rw [if_neg (by simpa using h)];have h':c y x=0:=by have:=hc.e1 x y x h;rw [hc.rf] at this;exact this.symm
   rw [if_neg (by simpa using h')];exact hd.ay x y
  ·right;right;rw [if_pos (by omega)];exact h
theorem Vb {α:Type} (f:α→Int):C3 (fun x y=>c3 (f x) (f y)):=by
 refine ⟨fun x y z=>?_,fun x y z=>?_,fun x y z=>?_,fun x=>?_,fun x y=>?_⟩<;>unfold c3<;>(repeat' split)<;>omega
theorem A3y {α:Type} (f:α→Int):C3 (fun x y=>c3 (f y) (f x)):=by
 refine ⟨fun x y z=>?_,fun x y z=>?_,fun x y z=>?_,fun x=>?_,fun x y=>?_⟩<;>unfold c3<;>(repeat' split)<;>omega
theorem Nf {a b:ByteArray}:c3s a b<0↔a.toList<b.toList:=by
 unfold c3s
 by_cases h:Rh a b=true
 ·rw [if_pos h];exact ⟨fun _=>(N3 a b).1 h,fun _=>by decide⟩
 ·rw [if_neg h];refine ⟨fun h2=>?_,fun h2=>absurd ((N3 a b).2 h2) h⟩
  split at h2<;>simp at h2
theorem Nd {a b:ByteArray}:c3s a b=0↔a.toList=b.toList:=by
 unfold c3s
 by_cases h:Rh a b=true
 ·rw [if_pos h];refine ⟨fun h2=>by simp at h2,fun h2=>?_⟩;have:=(N3 a b).1 h;rw [h2] at this;exact absurd this (Q4 _)
 ·rw [if_neg h]
  by_cases g:Qy a b=true
  ·rw [if_pos g];exact ⟨fun h2=>by simp at h2,fun h2=>absurd h2 ((Qz a b).1 g).2⟩
  ·rw [if_neg g];refine ⟨fun _=>?_,fun _=>rfl⟩;refine Decidable.by_contra fun hn=>g ((Qz a b).2 ⟨fun hl=>h ((N3 a b).2 hl),hn⟩)
theorem Vc {a b c d:ByteArray} (h:a.toList=b.toList) (k:c.toList=d.toList):c3s a c=c3s b d:=by
 rcases X7 a.toList c.toList with e|e|e
 ·have h1:c3s a c<0:=Nf.2 e;have h2:c3s b d<0:=Nf.2 (by rw [←h,←k];exact e);unfold c3s at *
  split at h1<;>(try split at h1)<;>split at h2<;>(try split at h2)<;>simp_all
 ·rw [Nd.2 e,Nd.2 (by rw [←h,←k];exact e)]
 ·have h1:¬c3s a c<0:=fun x=>absurd (Yf e (Nf.1 x)) (Q4 _);have h1':c3s a c≠0:=fun x=>by rw [Nd.1 x] at e;exact Q4 _ e
  have h2:¬c3s b d<0:=fun x=>by have:=Nf.1 x;rw [←h,←k] at this;exact absurd (Yf e this) (Q4 _)
  have h2':c3s b d≠0:=fun x=>by have:=Nd.1 x;rw [←h,←k] at this;rw [this] at e;exact Q4 _ e
  unfold c3s at *
  split at h1<;>(try split at h1)<;>split at h2<;>(try split at h2)<;>simp_all
theorem A3z {α:Type} (f:α→ByteArray):C3 (fun x y=>c3s (f x) (f y)):=by
 refine ⟨fun x y z h1 h2=>Nf.2 (Yf (Nf.1 h1) (Nf.1 h2)),fun x y z h=>Vc (Nd.1 h) rfl,fun x y z h=>Vc rfl (Nd.1 h),fun x=>Nd.2 rfl,fun x y=>?_⟩;rcases X7 (f x).toList (f y).toList with e|e|e
 ·exact .inl (Nf.2 e)
 ·exact .inr (.inl (Nd.2 e))
 ·exact .inr (.inr (Nf.2 e))
abbrev BK:=api_Span×mosaic_Key
def U8 (x y:BK):Int:=orL [c3 x.1.Hi y.1.Hi,c3 x.1.Lo y.1.Lo,c3 y.2.Time x.2.Time,c3s x.2.Name y.2.Name,c3 x.2.Tilt y.2.Tilt]
theorem Xx:U8=Ra (fun x y=>c3 x.1.Hi y.1.Hi) (Ra (fun x y=>c3 x.1.Lo y.1.Lo) (Ra (fun x y=>c3 y.2.Time x.2.Time) (Ra (fun x y=>c3s x.2.Name y.2.Name) (fun x y=>c3 x.2.Tilt y.2.Tilt)))):=by
 funext x y
 unfold U8 Ra;show (if _ then _ else if _ then _ else if _ then _ else if _ then _ else if c3 x.2.Tilt y.2.Tilt≠0 then c3 x.2.Tilt y.2.Tilt else 0)=_;have:(if c3 x.2.Tilt y.2.Tilt≠0 then c3 x.2.Tilt y.2.Tilt else 0)=c3 x.2.Tilt y.2.Tilt:=by split<;>omega
 rw [this]
theorem betC_ok:C3 U8:=by
 rw [Xx];exact Qq (Vb fun x:BK=>x.1.Hi) (Qq (Vb fun x:BK=>x.1.Lo) (Qq (A3y fun x:BK=>x.2.Time) (Qq (A3z fun x:BK=>x.2.Name) (Vb fun x:BK=>x.2.Tilt))))
theorem Yo (a b:ByteArray):Bx a b=c3s a b:=by
 unfold Bx C2;have:∀c:ByteArray,sEq c c=true:=fun c=>by unfold sEq;simp
 rw [this,this,B2 (c:=!true) rfl,B2 (c:=!true) rfl];unfold c3s
 cases Rh a b with
 | true=>rfl
 | false=>cases Qy a b<;>rfl
def S6 (l:List mosaic_used) (p:Nat) (x:mosaic_Pixel):Prop :=
 (x=⟨⟨0,1000000⟩,⟨ByteArray.empty,0,0⟩⟩∧∀u∈l,∀b,u.bands[p]? = some b→¬b.Lo≤b.Hi) ∨
 ∃u∈l,∃b v,u.bands[p]? = some b∧b.Lo≤b.Hi∧u.vals[p]? = some v∧x=⟨v,u.Key⟩∧∀u'∈l,∀b',u'.bands[p]? = some b'→b'.Lo≤b'.Hi→¬U8 (b',u'.Key) (b,u.Key)<0
def Ry (l:List mosaic_used) (p i:Nat) (q:Int):Prop :=
 (q=-1∧∀j u b,j<i→l[j]? = some u→u.bands[p]? = some b→¬b.Lo≤b.Hi) ∨
 ∃(m:Nat) (u:mosaic_used) (b:api_Span),q=m∧m<i∧l[m]? = some u∧u.bands[p]? = some b∧b.Lo≤b.Hi∧∀j u' b',j<i→l[j]? = some u'→u'.bands[p]? = some b'→b'.Lo≤b'.Hi→¬U8 (b',u'.Key) (b,u.Key)<0
abbrev YU:=List mosaic_used×List (mosaic_where×List api_Span)
theorem Zp {F P:Nat} {Y:YU} {p:Nat} {acc:List mosaic_Pixel} {k2:Int→List mosaic_Pixel→Option (List mosaic_Pixel×Int×List (mosaic_where×List api_Span))} (hF:100≤F) (hY:∀u∈Y.1,u.bands.length=P∧u.vals.length=P) (hp:p<P) (hl:Y.1.length≤10000) :
  ∀(n i:Nat) (q:Int),i≤Y.1.length→Y.1.length-i<n→Ry Y.1 p i q→∃q',Cf F Y p acc k2 n q (i:Int)=Cw Y p acc k2 q'∧Ry Y.1 p Y.1.length q':=by
 intro n
 induction n with
 | zero=>intro i q _ h;omega
 | succ n ih =>
  intro i q hi hn hq;rw [Cf];unfold G0
  by_cases hc:i<Y.1.length
  ·have hu:=hY _ (List.getElem_mem hc);have hgu:=List.getElem?_eq_getElem hc;obtain ⟨u,hue⟩:∃u,u=Y.1[i]:=⟨_,rfl⟩;rw [←hue] at hu hgu;obtain ⟨b,hb⟩:∃b,u.bands[p]? = some b:=⟨_,List.getElem?_eq_getElem (show p<u.bands.length by omega)⟩;rw [Bn (dT (by omega)),Dk i u rfl hgu,Dk p b rfl hb];have fin:∀q',Ry Y.1 p (i+1) q'→∃q2,Ce (i:Int) (Cf F Y p acc k2 n) q'=Cw Y p acc k2 q2∧Ry Y.1 p Y.1.length q2:=by
    intro q' hq';unfold Ce;rw [ckb (by omega)];exact ih (i+1) q' (by omega) (by omega) hq'
   have one:∀j u',j<i+1→Y.1[j]? = some u'→j<i∨(j=i∧u'=u):=by
    intro j u' hj hg
    by_cases h:j<i
    ·exact .inl h
    ·have:j=i:=by omega
     subst this;rw [hgu] at hg;cases hg
     exact .inr ⟨rfl,rfl⟩
   unfold Av
   by_cases hs:b.Lo≤b.Hi
   ·rw [B2 (by rw [dT hs];rfl)];rcases hq with ⟨rfl,h0⟩|⟨m,v,b2,rfl,hm,hv,hb2,hs2,h0⟩
    ·rw [Bn (dT (by omega))];refine fin _ (.inr ⟨i,u,b,rfl,by omega,hgu,hb,hs,?_⟩);intro j u' b' hj hg hb' hs';rcases one j u' hj hg with h|⟨rfl,rfl⟩
     ·exact absurd hs' (h0 j u' b' h hg hb')
     ·rw [hb] at hb';cases hb'
      rw [betC_ok.rf];omega
    ·rw [B2 (dF (by omega)),Dk m v rfl hv,Dk p b rfl hb,Dk p b2 rfl hb2,Dk p b rfl hb,Dk p b2 rfl hb2,Kc,Kc,Kc,Kc,Yo,A3g _ (by simp;omega) (by simp),sbd,
      show orL [c3 b.Hi b2.Hi,c3 b.Lo b2.Lo,c3 v.Key.Time u.Key.Time,c3s u.Key.Name v.Key.Name,c3 u.Key.Tilt v.Key.Tilt]=U8 (b,u.Key) (b2,v.Key) from rfl]
     by_cases hlt:U8 (b,u.Key) (b2,v.Key)<0
     ·rw [Bn (dT hlt)];refine fin _ (.inr ⟨i,u,b,rfl,by omega,hgu,hb,hs,?_⟩);intro j u' b' hj hg hb' hs' hbt;rcases one j u' hj hg with h|⟨rfl,rfl⟩
      ·exact h0 j u' b' h hg hb' hs' (betC_ok.tr _ _ _ hbt hlt)
      ·rw [hb] at hb';cases hb'
       rw [betC_ok.rf] at hbt;omega
     ·rw [B2 (dF hlt)];refine fin _ (.inr ⟨m,v,b2,rfl,by omega,hv,hb2,hs2,?_⟩);intro j u' b' hj hg hb' hs';rcases one j u' hj hg with h|⟨rfl,rfl⟩
      ·exact h0 j u' b' h hg hb' hs'
      ·rw [hb] at hb';cases hb'
       exact hlt
   ·rw [Bn (by rw [dF hs];rfl)];refine fin q ?_;rcases hq with ⟨rfl,h0⟩|⟨m,v,b2,rfl,hm,hv,hb2,hs2,h0⟩
    ·refine .inl ⟨rfl,fun j u' b' hj hg hb'=>?_⟩;rcases one j u' hj hg with h|⟨rfl,rfl⟩
     ·exact h0 j u' b' h hg hb'
     ·rw [hb] at hb';cases hb';exact hs
    ·refine .inr ⟨m,v,b2,rfl,by omega,hv,hb2,hs2,fun j u' b' hj hg hb' hs'=>?_⟩;rcases one j u' hj hg with h|⟨rfl,rfl⟩
     ·exact h0 j u' b' h hg hb' hs'
     ·rw [hb] at hb';cases hb';exact absurd hs' hs
  ·rw [B2 (dF (by omega))];have:i=Y.1.length:=by omega
   subst this;exact ⟨q,rfl,hq⟩
theorem A2i {F P:Nat} {Y:YU} (hF:100≤F) (hY:∀u∈Y.1,u.bands.length=P∧u.vals.length=P) (hl:Y.1.length<F) (hl2:Y.1.length≤10000) (hP:P≤10000) :
  ∀(n p:Nat) (acc:List mosaic_Pixel),p≤P→P-p<n→acc.length=p→(∀j x,acc[j]? = some x→S6 Y.1 j x)→∃out,Bt F Y (P:Int) n (p:Int) acc=some (out,0,Y.2)∧out.length=P∧∀j x,out[j]? = some x→S6 Y.1 j x:=by
 intro n
 induction n with
 | zero=>intro p acc _ h;omega
 | succ n ih =>
  intro p acc hp hn ha hx;rw [Bt];unfold Fz
  by_cases hc:p<P
  ·rw [Bn (dT (by omega))];obtain ⟨q,e,hq⟩:=Zp (F:=F) (P:=P) (Y:=Y) (p:=p) (acc:=acc) (k2:=Bt F Y (P:Int) n) hF hY hc hl2 F 0 (-1) (by omega) (by omega) (.inl ⟨rfl,fun j u b h=>by omega⟩);have e':Cf F Y (p:Int) acc (Bt F Y (P:Int) n) F (-1) 0=Cw Y p acc (Bt F Y (P:Int) n) q:=e;rw [e'];have fin:∀x:mosaic_Pixel,S6 Y.1 p x→∃out,Dq (p:Int) acc (Bt F Y (P:Int) n) x.Value_.Lo x.Value_.Hi x.Key.Name x.Key.Tilt x.Key.Time=some (out,0,Y.2)∧out.length=P∧∀j x,out[j]? = some x→S6 Y.1 j x:=by
    intro x hpx;unfold Dq G3;rw [Kd (by simp;omega) (by decide),ckb (by omega)];refine ih (p+1) (acc++[x]) (by omega) (by omega) (by simp;omega) (fun j y hj=>?_)
    by_cases h:j<acc.length
    ·rw [List.getElem?_append_left h] at hj;exact hx j y hj
    ·rw [List.getElem?_append_right (by omega)] at hj;have:j=p:=by
      have:=(List.getElem?_eq_some_iff.1 hj).1;simp at this;omega
     subst this;rw [ha,Nat.sub_self] at hj
     cases hj;exact hpx
   unfold Cw;rcases hq with ⟨rfl,h0⟩|⟨m,u,b,rfl,hm,hu,hb,hs,h0⟩
   ·rw [Bn (dT (by omega))];refine fin ⟨⟨0,1000000⟩,⟨ByteArray.empty,0,0⟩⟩ (.inl ⟨rfl,fun u hu b hb=>?_⟩);obtain ⟨j,hj,rfl⟩:=List.mem_iff_getElem.1 hu;exact h0 j _ b hj (List.getElem?_eq_getElem hj) hb
   ·have hum:=List.mem_of_getElem? hu;obtain ⟨_,hvl⟩:=hY u hum;obtain ⟨v,hv⟩:∃v,u.vals[p]? = some v:=⟨_,List.getElem?_eq_getElem (by omega)⟩;rw [B2 (dF (by omega)),Dk m u rfl hu,Dk p v rfl hv];refine fin ⟨v,u.Key⟩ (.inr ⟨u,hum,b,v,hb,hs,hv,rfl,fun u' hu' b' hb' hs'=>?_⟩);obtain ⟨j,hj,rfl⟩:=List.mem_iff_getElem.1 hu';exact h0 j _ b' hj (List.getElem?_eq_getElem hj) hb' hs'
  ·rw [B2 (dF (by omega))];unfold G1;exact ⟨acc,rfl,by omega,hx⟩
theorem V9 {F:Nat} {N:mosaic_Node} {t:Int} (h0:0≤t∧t≤4294967296) (hh:N.horizon≤t):Cl F N t=some 0:=by
 unfold Cl B5;rw [sbd,cond_false,Km h0,B2 (c:=!true) rfl,B2 (dF (by omega))]
theorem Wq {F:Nat} {s:mosaic_Spec} {N:mosaic_Node} {t:Int} (hF:1000≤F) (hs:GS F s) (h:NI F s N):∀u∈(K8 s N t).map (Dj F s N),u.bands.length=pix s∧u.vals.length=pix s:=by
 intro u hu;obtain ⟨k,hk,rfl⟩:=List.mem_map.1 hu;have hk2:=(A38.1 hk).1;obtain ⟨h1,h2⟩:=h.key hk2;refine ⟨Wv (by omega) hs h1,?_⟩;obtain ⟨v,vs,hv⟩:=List.exists_cons_of_ne_nil h2;show (((kl N.kept k)[0]?).getD []).length=_;rw [hv];exact h.kl_ok k v (by rw [hv];exact .head _)
theorem Zg {F:Nat} {s:mosaic_Spec} {N:mosaic_Node} {t:Int} (hF:1000≤F) (hs:GS F s) (h:NI F s N) (hn:tot N.kept<900) (ht:0≤t∧t≤4294967296) (hh:N.horizon≤t) :
  ∃out L,Bl F N t=some (out,0,L)∧LV F s L∧out.length=pix s∧∀p x,out[p]? = some x→S6 ((K8 s N t).map (Dj F s N)) p x:=by
 obtain ⟨L,e,hL⟩:=A3i (t:=t) hF hs h hn (by omega);have hp:=Xg hs;have hsm:=hs.small;have hul:((K8 s N t).map (Dj F s N)).length≤tot N.kept:=by
  rw [List.length_map];exact Nat.le_trans (List.length_filter_le _ _) h.small
 obtain ⟨out,e2,h1,h2⟩:=A2i (F:=F) (P:=pix s) (Y:=((K8 s N t).map (Dj F s N),L)) (by omega) (Wq hF hs h) (by show ((K8 s N t).map (Dj F s N)).length<F;omega) (by show ((K8 s N t).map (Dj F s N)).length≤10000;omega) (by omega) F 0 [] (by omega) (by omega) rfl (fun j x hj=>by simp at hj);refine ⟨out,L,?_,hL,h1,h2⟩;unfold Bl;rw [V9 ht hh,sbd,B2 (c:=(0:Int) != 0) rfl,e,sbd,h.spec,hp.1,ckb (by omega)];exact e2
end Go.Proofs.YtkbjbnkkfifbmaaGreat
namespace Go.Proofs.YtkbjbnkkfifbmaaGreat
open Go Go.RowKit Go.Eng
set_option maxRecDepth 10000
set_option linter.unusedVariables false
set_option linter.unusedSimpArgs false
theorem Gy {β:Type} {x y:Int} {f:Int→Option β} (h:y≠0):(F2 x y).bind f=f (x.tmod y):=by unfold F2;rw [if_neg h];rfl
structure RG (F:Nat) (s:mosaic_Spec):Prop where
 g:VG s.Grid
 e:VE s.Earth
 age:1≤s.Age∧s.Age≤86400
 small:pix s≤500
 len:1≤s.Radars.length∧s.Radars.length≤32
 nd:(s.Radars.map (·.Site.Name)).Nodup
 ok:∀r∈s.Radars,VS r.Site∧beam_CheckSite F r.Site=some 0∧(-3600≤r.Offset.Lo∧r.Offset.Lo≤r.Offset.Hi∧r.Offset.Hi≤3600)∧r.Site.Name≠ByteArray.empty
def Y8 (B:List (ByteArray×mosaic_Radar)) (l:List mosaic_Radar):List (ByteArray×mosaic_Radar):=l.foldl (fun B r=>upM B r.Site.Name r) B
theorem A0c:∀(l:List mosaic_Radar) (B:List (ByteArray×mosaic_Radar)) (n:ByteArray),(l.map (·.Site.Name)).Nodup→lkM (Y8 B l) n=match l.find? (fun r=>r.Site.Name=n) with|some r=>some r|none=>lkM B n:=by
 intro l
 induction l with
 | nil=>intro B n _;rfl
 | cons x l ih =>
  intro B n hn;rw [List.map_cons,List.nodup_cons] at hn;have e:Y8 B (x::l)=Y8 (upM B x.Site.Name x) l:=rfl;rw [e,ih _ _ hn.2,List.find?_cons]
  by_cases h:x.Site.Name=n
  ·have hnone:l.find? (fun r=>r.Site.Name=n)=none:=by
    rw [List.find?_eq_none];intro r hr hrn;have hrn:r.Site.Name=n:=by simpa using hrn
    exact hn.1 (by rw [h,←hrn];exact List.mem_map_of_mem (f:=(·.Site.Name)) hr)
   rw [hnone,Qr,if_pos h.symm];simp [h]
  ·rw [Qr,if_neg (fun e=>h e.symm)];simp [h]
theorem Rf {F:Nat} {s:mosaic_Spec} (h:RG F s) (n:ByteArray):lkM (radM s) n=s.Radars.find? (fun r=>r.Site.Name=n):=by
 have:=A0c s.Radars [] n h.nd;unfold radM;refine this.trans ?_
 cases s.Radars.find? (fun r=>r.Site.Name=n)<;>rfl
theorem RG.gs {F:Nat} {s:mosaic_Spec} (h:RG F s):GS F s:=by
 refine ⟨h.g,h.e,h.age,h.small,fun n x hx=>?_⟩;rw [Rf h] at hx;have h1:=List.mem_of_find?_eq_some hx;have h2:x.Site.Name=n:=by simpa using List.find?_some hx
 obtain ⟨a,b,c,d⟩:=h.ok x h1;exact ⟨a,b,c,h2▸d,h2⟩
theorem RG.lk {F:Nat} {s:mosaic_Spec} (h:RG F s) {r:mosaic_Radar} (hr:r∈s.Radars):lkM (radM s) r.Site.Name=some r:=by
 rw [Rf h]
 cases e:s.Radars.find? (fun x=>x.Site.Name=r.Site.Name) with
 | none =>
  rw [List.find?_eq_none] at e;exact absurd (by simp) (e r hr)
 | some x =>
  have h1:=List.mem_of_find?_eq_some e;have h2:x.Site.Name=r.Site.Name:=by simpa using List.find?_some e
  obtain ⟨i,hi,rfl⟩:=List.mem_iff_getElem.1 h1;obtain ⟨j,hj,rfl⟩:=List.mem_iff_getElem.1 hr;have:=List.pairwise_iff_getElem.1 h.nd;rcases Nat.lt_trichotomy i j with hij|hij|hij
  ·exact absurd (by rw [List.getElem_map,List.getElem_map];exact h2) (this i j (by simpa using hi) (by simpa using hj) hij)
  ·subst hij;rfl
  ·exact absurd (by rw [List.getElem_map,List.getElem_map];exact h2.symm) (this j i (by simpa using hj) (by simpa using hi) hij)
def Q1 (s:mosaic_Spec):mosaic_Node:=⟨s,radM s,0,[],0,[]⟩
theorem Yn {F:Nat} {s:mosaic_Spec} (h:RG F s):∀(n i:Nat) (B:List (ByteArray×Bool)),i≤s.Radars.length→s.Radars.length-i<n→(∀m b,lkM B m=some b→m∈(s.Radars.take i).map (·.Site.Name))→Fc F s n B (i:Int)=some 0:=by
 have hl:=h.len;intro n
 induction n with
 | zero=>intro i B _ h;omega
 | succ n ih =>
  intro i B hi hn hB;rw [Fc];unfold J7
  by_cases hc:i<s.Radars.length
  ·obtain ⟨a,b,c,d⟩:=h.ok _ (List.getElem_mem hc);have hnew:lkM B s.Radars[i].Site.Name=none:=by
    cases e:lkM B s.Radars[i].Site.Name with
    | none=>rfl
    | some b =>
     have:=hB _ _ e;rw [List.map_take] at this;obtain ⟨j,hj,hje⟩:=List.mem_take_iff_getElem.1 this;have hp:=List.pairwise_iff_getElem.1 h.nd j i (by simp at hj ⊢;omega) (by simpa using hc) (by omega);exact absurd (by rw [hje];simp) hp
   rw [Bn (dT (by omega)),Dk i s.Radars[i] rfl (List.getElem?_eq_getElem hc),b,sbd,B2 (c:=(0:Int) != 0) rfl,hnew,B2 (c:=(none:Option Bool).getD false) rfl,Qm c,B2 (c:=!true) rfl,ckb (by omega)];refine ih (i+1) _ (by omega) (by omega) (fun m b hm=>?_);rw [Qr] at hm;rw [List.take_succ_eq_append_getElem hc,List.map_append,List.mem_append]
   by_cases e:m=s.Radars[i].Site.Name
   ·exact .inr (by simp [e])
   ·rw [if_neg e] at hm;exact .inl (hB _ _ hm)
  ·rw [B2 (dF (by omega))];rfl
theorem Zf {F:Nat} {s:mosaic_Spec} (hF:100≤F) (h:RG F s):K0 F s=some 0:=by
 have hl:=h.len;unfold K0;rw [Qc h.g,B2 (c:=(0:Int) != 0) rfl,Qm h.e,Km h.age,B2 (c:=bif !true then true else !true) rfl,B2 (by
  have:¬((s.Radars.length:Nat):Int)=0:=by omega
  simpa using this),B2 (dF (by omega))]
 exact Yn h F 0 [] (by omega) (by omega) (fun m b hm=>by cases hm)
theorem A0v {F:Nat} {s:mosaic_Spec} {R:List mosaic_Radar} (hR:R.length≤1000):∀(n i:Nat) (B:List (ByteArray×mosaic_Radar)),i≤R.length→R.length-i<n→Hc s R n B (i:Int)=some (.ok (⟨⟨s.Grid,s.Earth,R,s.Age⟩,Y8 B (R.drop i),0,[],0,[]⟩,0)):=by
 intro n
 induction n with
 | zero=>intro i B _ h;omega
 | succ n ih =>
  intro i B hi hn;rw [Hc];unfold Kr
  by_cases hc:i<R.length
  ·rw [Bn (dT (by omega)),Dk i R[i] rfl (List.getElem?_eq_getElem hc),ckb (by omega),List.drop_eq_getElem_cons hc];exact ih (i+1) _ (by omega) (by omega)
  ·rw [B2 (dF (by omega)),List.drop_eq_nil_of_le (by omega)];rfl
theorem Wr {F:Nat} {s:mosaic_Spec} (hF:100≤F) (h:RG F s):Hq F s=some (.ok (Q1 s,0)):=by
 have hl:=h.len;unfold Hq Bh;rw [Zf hF h,sbd,B2 (c:=(0:Int) != 0) rfl,Kd (by simp;omega) (by decide),List.nil_append,sbd];exact A0v (F:=F) (by omega) F 0 [] (by omega) (by omega)
end Go.Proofs.YtkbjbnkkfifbmaaGreat
namespace Go.Proofs.YtkbjbnkkfifbmaaGreat
open Go Go.RowKit Go.Eng
set_option maxRecDepth 10000
set_option linter.unusedVariables false
set_option linter.unusedSimpArgs false
def A0z (x:law11_Station):Prop:=(-32768≤x.X∧x.X≤32767)∧(-32768≤x.Y∧x.Y≤32767)∧(0≤x.Z∧x.Z≤65535)∧(0≤x.Rose∧x.Rose≤255)∧(0≤x.Gates∧x.Gates≤255)∧(0≤x.Width∧x.Width≤255)∧(0≤x.Lo∧x.Lo≤65535)∧(0≤x.Hi∧x.Hi≤65535)
def Tp (n:law11_Net):Prop:=(0≤n.Wide∧n.Wide≤255)∧(0≤n.High∧n.High≤255)∧(A0z n.Stations.1∧A0z n.Stations.2.1∧A0z n.Stations.2.2)∧(0≤n.Count∧n.Count≤255)∧(0≤n.Age∧n.Age≤65535)
def okPost (p:law11_Post):Prop:=(0≤p.Radar∧p.Radar≤255)∧(0≤p.Tilt∧p.Tilt≤255)∧(0≤p.Time∧p.Time≤65535)∧(∀y∈p.Vals,0≤y∧y≤65535)∧(0≤p.Wide∧p.Wide≤255)
theorem tm {x y:Int} (h:0≤x) (hy:0<y):0≤x.tmod y∧x.tmod y<y:=⟨Int.tmod_nonneg _ h,Int.tmod_lt_of_pos _ hy⟩
theorem tm2 (x:Int) {y:Int} (hy:0<y):-y<x.tmod y∧x.tmod y<y:=by
 refine ⟨?_,Int.tmod_lt_of_pos _ hy⟩;have:=Int.tmod_lt_of_pos (-x) hy;rw [Int.neg_tmod] at this;omega
def nmR (i:Nat):ByteArray:=if i=0 then ⟨#[97]⟩ else if i=1 then ⟨#[98]⟩ else ⟨#[99]⟩
def mkR (i:Nat) (x:law11_Station):mosaic_Radar:=⟨⟨nmR i,x.X.tmod 4000,x.Y.tmod 4000,x.Z.tmod 1000,1+x.Rose.tmod 3,1+x.Gates.tmod 5,1000,x.Width.tmod 3⟩,⟨x.Lo.tmod 601-300,x.Lo.tmod 601-300+x.Hi.tmod 300⟩⟩
def Sy (n:law11_Net):List mosaic_Radar:=[mkR 0 n.Stations.1,mkR 1 n.Stations.2.1,mkR 2 n.Stations.2.2].take (n.Count.tmod 3).toNat.succ
def Kb (n:law11_Net):mosaic_Spec:=⟨⟨-2000,-2000,1000,1+n.Wide.tmod 4,1+n.High.tmod 4⟩,⟨8000000,9000000⟩,Sy n,1+n.Age.tmod 2000⟩
theorem Pj {n:law11_Net} {a b c:Int} (h:Tp n) (i:Nat) (m:Nat) (l:List mosaic_Radar) (hl:l.length≤3) (hi:(i:Int)≤n.Count.tmod 3) :
  C7 n a b c (m+1) l (i:Int)=C7 n a b c m (l++[mkR i (if i=0 then n.Stations.1 else if i=1 then n.Stations.2.1 else n.Stations.2.2)]) ((i+1:Nat):Int):=by
 obtain ⟨_,_,⟨s1,s2,s3⟩,hc,_⟩:=h;have hcm:=tm hc.1 (y:=3) (by omega);rw [C7];unfold Fh;rw [ckb (by omega),Gy (by omega),Bn (dT hi)];have hi3:i=0∨i=1∨i=2:=by omega
 rcases hi3 with rfl|rfl|rfl
 ·obtain ⟨⟨a1,b1⟩,⟨a2,b2⟩,⟨a3,b3⟩,⟨a4,b4⟩,⟨a5,b5⟩,⟨a6,b6⟩,⟨a7,b7⟩,⟨a8,b8⟩⟩:=s1;have t1:=tm a7 (y:=601) (by omega);have t2:=tm a8 (y:=300) (by omega);have t3:=tm a4 (y:=3) (by omega);have t4:=tm a5 (y:=5) (by omega);rw [Bn (c:=(((0:Nat):Int)==0)) rfl,ckb (by omega),Gy (by omega),ckb (by omega),Dk 0 _ rfl rfl,ckb (by omega),Gy (by omega),ckb (by omega),Gy (by omega),ckb (by omega),Gy (by omega),ckb (by omega),Gy (by omega),ckb (by omega),ckb (by omega),Gy (by omega),ckb (by omega),ckb (by omega),Gy (by omega),ckb (by omega),Gy (by omega),ckb (by omega),Kd (by simp;omega) (by decide),ckb (by omega)];rfl
 ·obtain ⟨⟨a1,b1⟩,⟨a2,b2⟩,⟨a3,b3⟩,⟨a4,b4⟩,⟨a5,b5⟩,⟨a6,b6⟩,⟨a7,b7⟩,⟨a8,b8⟩⟩:=s2;have t1:=tm a7 (y:=601) (by omega);have t2:=tm a8 (y:=300) (by omega);have t3:=tm a4 (y:=3) (by omega);have t4:=tm a5 (y:=5) (by omega);rw [B2 (c:=(((1:Nat):Int)==0)) rfl,Bn (c:=(((1:Nat):Int)==1)) rfl,ckb (by omega),Gy (by omega),ckb (by omega),Dk 1 _ rfl rfl,ckb (by omega),Gy (by omega),ckb (by omega),Gy (by omega),ckb (by omega),Gy (by omega),ckb (by omega),Gy (by omega),ckb (by omega),ckb (by omega),Gy (by omega),ckb (by omega),ckb (by omega),Gy (by omega),ckb (by omega),Gy (by omega),ckb (by omega),Kd (by simp;omega) (by decide),ckb (by omega)];rfl
 ·obtain ⟨⟨a1,b1⟩,⟨a2,b2⟩,⟨a3,b3⟩,⟨a4,b4⟩,⟨a5,b5⟩,⟨a6,b6⟩,⟨a7,b7⟩,⟨a8,b8⟩⟩:=s3;have t1:=tm a7 (y:=601) (by omega);have t2:=tm a8 (y:=300) (by omega);have t3:=tm a4 (y:=3) (by omega);have t4:=tm a5 (y:=5) (by omega);rw [B2 (c:=(((2:Nat):Int)==0)) rfl,B2 (c:=(((2:Nat):Int)==1)) rfl,Bn (c:=(((2:Nat):Int)==2)) rfl,ckb (by omega),Gy (by omega),ckb (by omega),Dk 2 _ rfl rfl,ckb (by omega),Gy (by omega),ckb (by omega),Gy (by omega),ckb (by omega),Gy (by omega),ckb (by omega),Gy (by omega),ckb (by omega),ckb (by omega),Gy (by omega),ckb (by omega),ckb (by omega),Gy (by omega),ckb (by omega),Gy (by omega),ckb (by omega),Kd (by simp;omega) (by decide),ckb (by omega)];rfl
theorem Sq {n:law11_Net} {a b c:Int} (h:Tp n) (i:Nat) (m:Nat) (l:List mosaic_Radar) (hi:¬(i:Int)≤n.Count.tmod 3) :
  C7 n a b c (m+1) l (i:Int)=some ⟨⟨-2000,-2000,1000,a,b⟩,⟨8000000,9000000⟩,l,c⟩:=by
 obtain ⟨_,_,_,hc,_⟩:=h;rw [C7];unfold Fh;rw [ckb (by omega),Gy (by omega),B2 (dF hi)];rfl
theorem A2h {F:Nat} {n:law11_Net} (hF:10≤F) (h:Tp n):Gd F n=some (Kb n):=by
 obtain ⟨m,rfl⟩:∃m,F=m+4:=⟨F-4,by omega⟩;have h':=h;obtain ⟨hw,hh,_,hc,ha⟩:=h';have t1:=tm hw.1 (y:=4) (by omega);have t2:=tm hh.1 (y:=4) (by omega);have t3:=tm ha.1 (y:=2000) (by omega);have t4:=tm hc.1 (y:=3) (by omega);unfold Gd;rw [ckb (by omega),Gy (by omega),ckb (by omega),ckb (by omega),Gy (by omega),ckb (by omega),ckb (by omega),Gy (by omega),ckb (by omega)];have s0:=Pj (a:=1+n.Wide.tmod 4) (b:=1+n.High.tmod 4) (c:=1+n.Age.tmod 2000) h 0 (m+3) [] (by simp) (by omega);refine Eq.trans (b:=C7 n (1+n.Wide.tmod 4) (1+n.High.tmod 4) (1+n.Age.tmod 2000) (m+3) ([]++[mkR 0 n.Stations.1]) ((0+1:Nat):Int)) s0 ?_;have hcc:n.Count.tmod 3=0∨n.Count.tmod 3=1∨n.Count.tmod 3=2:=by omega
 rcases hcc with e|e|e
 ·rw [Sq h 1 (m+2) _ (by omega)];unfold Kb Sy;rw [e];rfl
 ·rw [Pj h 1 (m+2) _ (by simp) (by omega),Sq h (1+1) (m+1) _ (by omega)];unfold Kb Sy;rw [e];rfl
 ·rw [Pj h 1 (m+2) _ (by simp) (by omega),Pj h (1+1) (m+1) _ (by simp) (by omega),Sq h (1+1+1) m _ (by omega)];unfold Kb Sy;rw [e];rfl
theorem A5w (F i:Nat):Ms F (nmR i)=some true:=by
 unfold nmR
 split
 ·kernel_rfl
 ·split<;>kernel_rfl
theorem A5v (i:Nat):nmR i≠ByteArray.empty:=by
 unfold nmR
 split
 ·decide
 ·split<;>decide
structure MR (r:mosaic_Radar):Prop where
 step:r.Site.Step=1000
 width:0≤r.Site.Width∧r.Site.Width≤2
 gates:1≤r.Site.Gates∧r.Site.Gates≤5
theorem A4f {F:Nat} {x:law11_Station} (i:Nat) (h:A0z x):VS (mkR i x).Site∧beam_CheckSite F (mkR i x).Site=some 0∧(-3600≤(mkR i x).Offset.Lo∧(mkR i x).Offset.Lo≤(mkR i x).Offset.Hi∧(mkR i x).Offset.Hi≤3600)∧(mkR i x).Site.Name≠ByteArray.empty∧MR (mkR i x):=by
 obtain ⟨⟨a1,b1⟩,⟨a2,b2⟩,⟨a3,b3⟩,⟨a4,b4⟩,⟨a5,b5⟩,⟨a6,b6⟩,⟨a7,b7⟩,⟨a8,b8⟩⟩:=h;have t1:=tm a7 (y:=601) (by omega);have t2:=tm a8 (y:=300) (by omega);have t3:=tm a4 (y:=3) (by omega);have t4:=tm a5 (y:=5) (by omega);have t5:=tm2 x.X (y:=4000) (by omega);have t6:=tm2 x.Y (y:=4000) (by omega);have t7:=tm a3 (y:=1000) (by omega);have t8:=tm a6 (y:=3) (by omega);have hv:VS (mkR i x).Site:=by
  refine ⟨?_,?_,?_,?_,?_,?_,?_⟩<;>(unfold mkR;dsimp only;omega)
 refine ⟨hv,Ty hv (A5w F i),?_,A5v i,?_⟩
 ·unfold mkR;dsimp only;omega
 ·refine ⟨rfl,?_,?_⟩<;>(unfold mkR;dsimp only;omega)
theorem Yg {n:law11_Net} (h:Tp n):∀r∈Sy n,∃i x,A0z x∧r=mkR i x:=by
 obtain ⟨_,_,⟨s1,s2,s3⟩,_,_⟩:=h;intro r hr;have:=List.mem_of_mem_take hr;simp only [List.mem_cons,List.not_mem_nil,or_false] at this;rcases this with rfl|rfl|rfl
 ·exact ⟨_,_,s1,rfl⟩
 ·exact ⟨_,_,s2,rfl⟩
 ·exact ⟨_,_,s3,rfl⟩
theorem A30 {F:Nat} {n:law11_Net} (h:Tp n):RG F (Kb n):=by
 have h':=h;obtain ⟨hw,hh,_,hc,ha⟩:=h';have t1:=tm hw.1 (y:=4) (by omega);have t2:=tm hh.1 (y:=4) (by omega);have t3:=tm ha.1 (y:=2000) (by omega);have t4:=tm hc.1 (y:=3) (by omega);have hm:=Lu (x:=1+n.Wide.tmod 4) (y:=1+n.High.tmod 4) (A:=4) (B:=4) (by omega) (by omega);have hlen:(Sy n).length=(n.Count.tmod 3).toNat.succ:=by
  unfold Sy;rw [List.length_take];simp;omega
 refine ⟨?_,?_,?_,?_,?_,?_,?_⟩
 ·refine ⟨?_,?_,?_,?_,?_⟩<;>(unfold Kb;dsimp only;omega)
 ·unfold VE Kb;dsimp only;omega
 ·unfold Kb;dsimp only;omega
 ·unfold pix Kb;dsimp only;omega
 ·show 1≤(Sy n).length∧(Sy n).length≤32;rw [hlen];omega
 ·show ((Sy n).map (·.Site.Name)).Nodup;unfold Sy;rw [List.map_take];refine List.Nodup.sublist (List.take_sublist _ _) ?_;show [nmR 0,nmR 1,nmR 2].Nodup
  decide
 ·intro r hr;obtain ⟨i,x,hx,rfl⟩:=Yg h r hr;obtain ⟨a,b,c,d,_⟩:=A4f (F:=F) i hx;exact ⟨a,b,c,d⟩
def P7 (p:law11_Post) (i:Nat):Int:=if p.Vals.length=0 then 0 else (p.Vals[i%p.Vals.length]?).getD 0
theorem Yi {p:law11_Post} (h:okPost p) (i:Nat):0≤P7 p i∧P7 p i≤65535:=by
 unfold P7
 by_cases hl:p.Vals.length=0
 ·rw [if_pos hl];omega
 ·rw [if_neg hl];have hlt:i%p.Vals.length<p.Vals.length:=Nat.mod_lt _ (by omega);rw [List.getElem?_eq_getElem hlt];exact h.2.2.2.1 _ (List.getElem_mem hlt)
def Lt (p:law11_Post) (s:mosaic_Spec):mosaic_Message:=⟨⟨((s.Radars[p.Radar.toNat%s.Radars.length]?).getD default).Site.Name,p.Tilt.tmod 4,p.Time.tmod 2000⟩,(List.range (pix s)).map fun i=>⟨P7 p i,P7 p i+p.Wide⟩⟩
theorem Wo {a b:Nat}:((a:Int)).tmod (b:Int)=((a%b:Nat):Int):=rfl
theorem A14 {F:Nat} {s:mosaic_Spec} {p:law11_Post} {u:mosaic_Radar} {t v:Int} (h:RG F s) (hp:okPost p):∀(n i:Nat) (acc:List api_Span),i≤pix s→pix s-i<n→acc.length=i →
  Da p s u t v n acc (i:Int)=some ⟨⟨u.Site.Name,t,v⟩,acc++((List.range (pix s)).drop i).map fun i=>⟨P7 p i,P7 p i+p.Wide⟩⟩:=by
 have hpx:=Xg h.gs;have hsm:=h.small;have hw:=hp.2.2.2.2;intro n
 induction n with
 | zero=>intro i _ _ h;omega
 | succ n ih =>
  intro i acc hi hn ha;rw [Da];unfold Gt;rw [hpx.1,ckb (by omega)]
  by_cases hc:i<pix s
  ·rw [Bn (dT (by omega))];have hv:=Yi hp i;have fin:E0 p acc (i:Int) (Da p s u t v n) (P7 p i)=some ⟨⟨u.Site.Name,t,v⟩,acc++((List.range (pix s)).drop i).map fun i=>⟨P7 p i,P7 p i+p.Wide⟩⟩:=by
    unfold E0;rw [ckb (by omega),ckb (by omega),Kd (by simp;omega) (by decide),ckb (by omega)];have:=ih (i+1) (acc++[⟨P7 p i,P7 p i+p.Wide⟩]) (by omega) (by omega) (by simp;omega);rw [List.append_assoc,List.singleton_append] at this;rw [List.drop_eq_getElem_cons (show i<(List.range (pix s)).length by simpa using hc),List.map_cons,List.getElem_range];exact this
   by_cases hl:p.Vals.length=0
   ·rw [B2 (dF (by omega)),show (0:Int)=P7 p i by unfold P7;rw [if_pos hl]];exact fin
   ·have hlt:i%p.Vals.length<p.Vals.length:=Nat.mod_lt _ (by omega);have e:P7 p i=p.Vals[i%p.Vals.length]:=by
     unfold P7;rw [if_neg hl,List.getElem?_eq_getElem hlt];rfl
    rw [Bn (dT (by omega)),Gy (by omega),Wo,Dk (i%p.Vals.length) (P7 p i) rfl (by rw [e];exact List.getElem?_eq_getElem hlt),ckb (by omega)];exact fin
  ·rw [B2 (dF (by omega)),List.drop_eq_nil_of_le (by simp;omega)];unfold Gu;rw [List.map_nil,List.append_nil]
theorem A2q {F:Nat} {s:mosaic_Spec} {p:law11_Post} (hF:600≤F) (h:RG F s) (hp:okPost p):H8 F p s=some (Lt p s):=by
 have hpx:=Xg h.gs;have hsm:=h.small;have hl:=h.len;have hp':=hp;obtain ⟨⟨r1,r2⟩,⟨t1,t2⟩,⟨m1,m2⟩,_,_⟩:=hp';obtain ⟨R,hR⟩:∃R:Nat,p.Radar=R:=⟨p.Radar.toNat,by omega⟩;have hlt:R%s.Radars.length<s.Radars.length:=Nat.mod_lt _ (by omega);unfold H8;rw [ckb (by omega),Gy (by omega),hR,Wo,Dk (R%s.Radars.length) s.Radars[R%s.Radars.length] rfl (List.getElem?_eq_getElem hlt),ckb (by omega),Gy (by omega),ckb (by omega),Gy (by omega)];have:=A14 (u:=s.Radars[R%s.Radars.length]) (t:=p.Tilt.tmod 4) (v:=p.Time.tmod 2000) h hp F 0 [] (by omega) (by omega) rfl;rw [List.drop_zero,List.nil_append] at this;refine Eq.trans this ?_;unfold Lt;rw [hR,Int.toNat_natCast,List.getElem?_eq_getElem hlt];rfl
theorem A4h {F:Nat} {s:mosaic_Spec} {p:law11_Post} (h:RG F s) (hp:okPost p):okM s (Lt p s)∧(0≤(Lt p s).Key.Tilt∧(Lt p s).Key.Tilt≤3)∧(0≤(Lt p s).Key.Time∧(Lt p s).Key.Time≤1999):=by
 have hl:=h.len;have hlt:p.Radar.toNat%s.Radars.length<s.Radars.length:=Nat.mod_lt _ (by omega);have hw:=hp.2.2.2.2;have a1:=tm hp.2.1.1 (y:=4) (by omega);have a2:=tm hp.2.2.1.1 (y:=2000) (by omega);have k1:0≤(Lt p s).Key.Tilt∧(Lt p s).Key.Tilt≤3:=by unfold Lt;dsimp only;omega
 have k2:0≤(Lt p s).Key.Time∧(Lt p s).Key.Time≤1999:=by unfold Lt;dsimp only;omega
 have hnm:(Lt p s).Key.Name=s.Radars[p.Radar.toNat%s.Radars.length].Site.Name:=by unfold Lt;rw [List.getElem?_eq_getElem hlt];rfl
 have hlk:=h.lk (r:=s.Radars[p.Radar.toNat%s.Radars.length]) (List.getElem_mem hlt);rw [←hnm] at hlk;refine ⟨⟨⟨⟨_,hlk⟩,by omega,by omega⟩,?_,?_⟩,k1,k2⟩
 ·unfold Lt;simp
 ·intro v hv;unfold Lt at hv;simp only [List.mem_map] at hv;obtain ⟨i,_,rfl⟩:=hv;have:=Yi hp i;dsimp only;omega
end Go.Proofs.YtkbjbnkkfifbmaaGreat
namespace Go.Proofs.YtkbjbnkkfifbmaaGreat
open Go Go.RowKit Go.Eng
set_option maxRecDepth 10000
set_option linter.unusedVariables false
set_option linter.unusedSimpArgs false
theorem So {α:Type} {c d:α→α→Int} {x y:α} (h:Ra c d x y=0):c x y=0∧d x y=0:=by
 unfold Ra at h
 by_cases a:c x y=0
 ·rw [if_neg (by simpa using a)] at h;exact ⟨a,h⟩
 ·rw [if_pos a] at h;exact absurd h a
theorem A1y {a b:Int} (h:c3 a b=0):a=b:=by
 unfold c3 at h
 repeat' split at h
 all_goals first|omega|simp at h
theorem baL {a b:ByteArray} (h:a.toList=b.toList):a=b:=by
 apply Uz.1;rw [←Nl,h];exact beq_self_eq_true _
theorem Zq {x y:BK} (h:U8 x y=0):x.2=y.2:=by
 rw [Xx] at h;have h1:=(So (So h).2).2;obtain ⟨h2,h3⟩:=So h1;obtain ⟨h4,h5⟩:=So h3;have e1:=A1y h2;have e2:=baL (Nd.1 h4);have e3:=A1y h5;obtain ⟨xb,n,t,u⟩:=x;obtain ⟨yb,n',t',u'⟩:=y;dsimp only at e1 e2 e3 ⊢;rw [e1,e2,e3]
theorem A12 {F:Nat} {s:mosaic_Spec} {N N':mosaic_Node} {t:Int} {p:Nat} {x x':mosaic_Pixel} (G:mosaic_Key→Prop) (hu:∀k,¬G k→(k∈K8 s N t↔k∈K8 s N' t)) (hk:∀k,¬G k→k∈K8 s N t→kl N.kept k=kl N'.kept k)
  (hx:S6 ((K8 s N t).map (Dj F s N)) p x) (hx':S6 ((K8 s N' t).map (Dj F s N')) p x') (g:¬G x.Key) (g':¬G x'.Key):x=x':=by
 rcases hx with ⟨rfl,h1⟩|⟨u,hm,b,v,h1,h2,h3,rfl,h5⟩
 ·rcases hx' with ⟨rfl,_⟩|⟨u',hm',b',v',h1',h2',h3',rfl,h5'⟩
  ·rfl
  ·obtain ⟨k,hk',rfl⟩:=List.mem_map.1 hm';exact absurd h2' (h1 (Dj F s N k) (List.mem_map.2 ⟨k,(hu k g').2 hk',rfl⟩) b' h1')
 ·obtain ⟨k,hk1,rfl⟩:=List.mem_map.1 hm;have hk2:=(hu k g).1 hk1;rcases hx' with ⟨rfl,h1'⟩|⟨u',hm',b',v',h1',h2',h3',rfl,h5'⟩
  ·exact absurd h2 (h1' (Dj F s N' k) (List.mem_map.2 ⟨k,hk2,rfl⟩) b h1)
  ·obtain ⟨k',hk1',rfl⟩:=List.mem_map.1 hm';have hk2':=(hu k' g').2 hk1';have a1:=h5 (Dj F s N k') (List.mem_map.2 ⟨k',hk2',rfl⟩) b' h1' h2';have a2:=h5' (Dj F s N' k) (List.mem_map.2 ⟨k,hk2,rfl⟩) b h1 h2;have e:U8 (b,k) (b',k')=0:=by
    rcases betC_ok.ay (b,k) (b',k') with h|h|h
    ·exact absurd h a2
    ·exact h
    ·exact absurd h a1
   have ek:k=k':=Zq e;subst ek;have ev:(Dj F s N k).vals=(Dj F s N' k).vals:=by
    show ((kl N.kept k)[0]?).getD []=((kl N'.kept k)[0]?).getD [];rw [hk k g hk1]
   rw [ev,h3'] at h3
   cases h3
   rfl
theorem X1 {N:mosaic_Node} {m:mosaic_Message} {r:Nat} {k:mosaic_Key} (h:k≠m.Key):kl (J4 N m r).kept k=kl N.kept k:=by
 unfold kl;show (lkM (upM N.kept m.Key _) k).getD []=_;rw [Qr,if_neg h]
end Go.Proofs.YtkbjbnkkfifbmaaGreat
namespace Go.Proofs.YtkbjbnkkfifbmaaGreat
open Go Go.RowKit Go.Eng
set_option maxRecDepth 10000
set_option linter.unusedVariables false
set_option linter.unusedSimpArgs false
theorem cmpS_ok:C3 Kg:=Qq (Vb fun x:api_Span=>x.Lo) (Vb fun x:api_Span=>x.Hi)
theorem A01 {x y:api_Span} (h:Kg x y=0):x=y:=by
 obtain ⟨h1,h2⟩:=So (c:=fun x y:api_Span=>c3 x.Lo y.Lo) (d:=fun x y:api_Span=>c3 x.Hi y.Hi) h;obtain ⟨a,b⟩:=x;obtain ⟨c,d⟩:=y;have:=A1y h1;have:=A1y h2;dsimp only at *
 subst_vars
 rfl
theorem Nh (x:List api_Span):F3 x x=0:=by
 induction x with
 | nil=>rfl
 | cons a x ih =>
  show (if Kg a a≠0 then Kg a a else F3 x x)=0;rw [if_neg (by simpa using cmpS_ok.rf a),ih]
theorem A02:∀{x y:List api_Span},F3 x y=0→x=y
 | [],[],_=>rfl
 | [],_::_,h=>by simp [F3] at h
 | _::_,[],h=>by simp [F3] at h
 | a::x,b::y,h=>by
  have h:(if Kg a b≠0 then Kg a b else F3 x y)=0:=h
  by_cases c:Kg a b=0
  ·rw [if_neg (by simpa using c)] at h;rw [A01 c,A02 h]
  ·rw [if_pos c] at h;exact absurd h c
theorem Pa:∀{x y z:List api_Span},F3 x y<0→F3 y z<0→F3 x z<0
 | [],[],_,h,_=>by simp [F3] at h
 | [],_::_,[],_,h=>by simp [F3] at h
 | [],_::_,_::_,_,_=>by simp [F3]
 | _::_,[],_,h,_=>by simp [F3] at h
 | _::_,_::_,[],_,h=>by simp [F3] at h
 | a::x,b::y,c::z,h,k=>by
  have h:(if Kg a b≠0 then Kg a b else F3 x y)<0:=h;have k:(if Kg b c≠0 then Kg b c else F3 y z)<0:=k;show (if Kg a c≠0 then Kg a c else F3 x z)<0
  by_cases p:Kg a b=0
  ·rw [if_neg (by simpa using p)] at h;rw [cmpS_ok.e1 a b c p]
   by_cases q:Kg b c=0
   ·rw [if_neg (by simpa using q)] at k ⊢;exact Pa h k
   ·rw [if_pos q] at k ⊢;exact k
  ·rw [if_pos p] at h
   by_cases q:Kg b c=0
   ·rw [←cmpS_ok.e2 a b c q,if_pos p];exact h
   ·rw [if_pos q] at k;have:=cmpS_ok.tr a b c h k;rw [if_pos (by omega)];exact this
theorem Y0:∀{x y:List api_Span},F3 x y<0∨F3 x y=0∨F3 y x<0
 | [],[]=>.inr (.inl rfl)
 | [],_::_=>.inl (by simp [F3])
 | _::_,[]=>.inr (.inr (by simp [F3]))
 | a::x,b::y=>by
  show (if Kg a b≠0 then Kg a b else F3 x y)<0∨(if Kg a b≠0 then Kg a b else F3 x y)=0∨(if Kg b a≠0 then Kg b a else F3 y x)<0;rcases cmpS_ok.ay a b with h|h|h
  ·left;rw [if_pos (by omega)];exact h
  ·have h':Kg b a=0:=by rw [A01 h];exact cmpS_ok.rf _
   rw [if_neg (by simpa using h),if_neg (by simpa using h')];exact Y0
  ·right;right;rw [if_pos (by omega)];exact h
theorem A22 {x y:List api_Span} (h:F3 x y<0):¬F3 y x<0:=fun k=>by
 have:=Pa h k;rw [Nh] at this;omega
abbrev Srt (l:List (List api_Span)):Prop:=l.Pairwise (fun x y=>F3 x y<0)
theorem A1g:∀{l k:List (List api_Span)},Srt l→Srt k→(∀x,x∈l↔x∈k)→l=k
 | [],[],_,_,_=>rfl
 | [],b::k,_,_,h=>by cases (h b).2 (.head _)
 | a::l,[],_,_,h=>by cases (h a).1 (.head _)
 | a::l,b::k,hl,hk,h=>by
  have hl':=List.pairwise_cons.1 hl;have hk':=List.pairwise_cons.1 hk;have e:a=b:=by
   rcases List.mem_cons.1 ((h a).1 (.head _)) with e|e
   ·exact e
   ·rcases List.mem_cons.1 ((h b).2 (.head _)) with e'|e'
    ·exact e'.symm
    ·exact absurd (hl'.1 b e') (A22 (hk'.1 a e))
  subst e;rw [A1g hl'.2 hk'.2 fun x=>?_];constructor
  ·intro hx;rcases List.mem_cons.1 ((h x).1 (.tail _ hx)) with e|e
   ·subst e;have:=hl'.1 _ hx;rw [Nh] at this;omega
   ·exact e
  ·intro hx;rcases List.mem_cons.1 ((h x).2 (.tail _ hx)) with e|e
   ·subst e;have:=hk'.1 _ hx;rw [Nh] at this;omega
   ·exact e
def has (N:mosaic_Node) (m:mosaic_Message):Prop:=m.Vals∈kl N.kept m.Key
structure SN (F:Nat) (s:mosaic_Spec) (N:mosaic_Node):Prop where
 ni:NI F s N
 so:∀k,Srt (kl N.kept k)
 vs:∀k,∀v∈kl N.kept k,∀x∈v,0≤x.Lo∧x.Lo≤x.Hi∧x.Hi≤1000000
theorem SN.okm {F:Nat} {s:mosaic_Spec} {N:mosaic_Node} (h:SN F s N) {m:mosaic_Message} (hm:has N m):okM s m:=by
 have hk:m.Key∈ksN N:=by
  rw [Un];unfold has kl at hm
  cases e:lkM N.kept m.Key with
  | none=>rw [e] at hm;cases hm
  | some l=>exact ⟨l,rfl⟩
 exact ⟨(h.ni.key hk).1,h.ni.kl_ok _ _ hm,h.vs _ _ hm⟩
theorem SN.kl_eq {F:Nat} {s:mosaic_Spec} {N N':mosaic_Node} (h:SN F s N) (h':SN F s N') (e:∀m,has N m↔has N' m) (k:mosaic_Key):kl N.kept k=kl N'.kept k :=
 A1g (h.so k) (h'.so k) fun x=>e ⟨k,x⟩
theorem A31 {l:List (List api_Span)} {r:Nat} {v:List api_Span} (hl:Srt l) (hr:r≤l.length) (h1:r=0∨∃x,l[r-1]? = some x∧F3 x v<0) (h2:r=l.length∨∃x,l[r]? = some x∧F3 v x<0):Srt (Ny l r v):=by
 unfold Ny;have lo:∀x∈l.take r,F3 x v<0:=by
  intro x hx;obtain ⟨i,hi,rfl⟩:=List.mem_take_iff_getElem.1 hx;rcases h1 with h1|⟨y,hy,hlt⟩
  ·omega
  ·obtain ⟨hy1,rfl⟩:=List.getElem?_eq_some_iff.1 hy;rcases Nat.lt_or_ge i (r-1) with h|h
   ·exact Pa (List.pairwise_iff_getElem.1 hl i (r-1) (by omega) hy1 h) hlt
   ·have:i=r-1:=by omega
    subst this;exact hlt
 have hi:∀x∈l.drop r,F3 v x<0:=by
  intro x hx;obtain ⟨i,hi,rfl⟩:=List.mem_drop_iff_getElem.1 hx;rcases h2 with h2|⟨y,hy,hlt⟩
  ·omega
  ·obtain ⟨hy1,rfl⟩:=List.getElem?_eq_some_iff.1 hy;rcases Nat.eq_zero_or_pos i with h|h
   ·subst h;exact hlt
   ·exact Pa hlt (List.pairwise_iff_getElem.1 hl r (r+i) hy1 (by omega) (by omega))
 refine List.pairwise_append.2 ⟨List.pairwise_append.2 ⟨hl.sublist (List.take_sublist _ _),List.pairwise_singleton _ _,fun x hx y hy=>?_⟩,hl.sublist (List.drop_sublist _ _),fun x hx y hy=>?_⟩
 ·rw [List.mem_singleton.1 hy];exact lo x hx
 ·rcases List.mem_append.1 hx with hx|hx
  ·exact Pa (lo x hx) (hi y hy)
  ·rw [List.mem_singleton.1 hx];exact hi y hy
theorem P0 {N:mosaic_Node} {m:mosaic_Message} {r:Nat}:kl (J4 N m r).kept m.Key=Ny (kl N.kept m.Key) r m.Vals:=by
 unfold kl;show (lkM (upM N.kept m.Key _) m.Key).getD []=_;rw [Ye];rfl
theorem Gs {N:mosaic_Node} {m x:mosaic_Message} {r:Nat}:has (J4 N m r) x↔x=m∨has N x:=by
 unfold has
 by_cases h:x.Key=m.Key
 ·rw [h,P0,R8];constructor
  ·rintro (e|e)
   ·left;obtain ⟨k,v⟩:=x;obtain ⟨k',v'⟩:=m;dsimp only at *;rw [h,e]
   ·exact .inr e
  ·rintro (e|e)
   ·left;rw [e]
   ·exact .inr e
 ·rw [X1 h];exact ⟨.inr,fun e=>e.elim (fun e=>absurd (by rw [e]) h) id⟩
theorem SN.put {F:Nat} {s:mosaic_Spec} {N:mosaic_Node} {m:mosaic_Message} {r:Nat} (h:SN F s N) (hm:okM s m) (hr:r≤(kl N.kept m.Key).length) (h1:r=0∨∃x,(kl N.kept m.Key)[r-1]? = some x∧F3 x m.Vals<0) (h2:r=(kl N.kept m.Key).length∨∃x,(kl N.kept m.Key)[r]? = some x∧F3 m.Vals x<0):SN F s (J4 N m r):=by
 refine ⟨h.ni.put hm hr,fun k=>?_,fun k v hv=>?_⟩
 ·by_cases e:k=m.Key
  ·subst e;rw [P0];exact A31 (h.so _) hr h1 h2
  ·rw [X1 e];exact h.so k
 ·by_cases e:k=m.Key
  ·subst e;rw [P0] at hv;rcases R8.1 hv with rfl|hv
   ·exact hm.vals
   ·exact h.vs _ _ hv
  ·rw [X1 e] at hv;exact h.vs _ _ hv
theorem Tq {F:Nat} {s:mosaic_Spec} {N:mosaic_Node} {m:mosaic_Message} (hF:1000≤F) (hs:GS F s) (h:SN F s N) (ht:tot N.kept<900) :
  ∃(r:Nat) (b:Bool),Cn F N m=some ((r:Int),b)∧r≤(kl N.kept m.Key).length∧(b=true↔has N m)∧(b=false→okM s m→SN F s (J4 N m r)):=by
 have h2:=hs.small;have h3:=A0k N.kept m.Key;obtain ⟨r,b,e,r1,r2,r3,r4⟩:=A13 (F:=F) (by omega) N m (by omega) (fun x hx=>by rw [h.ni.kl_ok _ x hx];omega);have lo:∀i,i<r→∀x,(kl N.kept m.Key)[i]? = some x→F3 x m.Vals<0:=by
  intro i hi x hx;obtain ⟨hx1,rfl⟩:=List.getElem?_eq_some_iff.1 hx;rcases r3 with r3|⟨y,hy,hlt⟩
  ·omega
  ·obtain ⟨hy1,rfl⟩:=List.getElem?_eq_some_iff.1 hy;rcases Nat.lt_or_ge i (r-1) with h'|h'
   ·exact Pa (List.pairwise_iff_getElem.1 (h.so m.Key) i (r-1) hx1 hy1 h') hlt
   ·have:i=r-1:=by omega
    subst this;exact hlt
 have hb:b=true↔has N m:=by
  rw [r2];constructor
  ·rintro ⟨x,hx,hc⟩;have:=A02 hc;subst this;exact List.mem_iff_getElem?.2 ⟨r,hx⟩
  ·intro hm;obtain ⟨i,hi⟩:=List.mem_iff_getElem?.1 hm;have hir:r≤i:=by
    rcases Nat.lt_or_ge i r with h'|h'
    ·have:=lo i h' _ hi;rw [Nh] at this;omega
    ·exact h'
   obtain ⟨hi1,hi2⟩:=List.getElem?_eq_some_iff.1 hi;rcases r4 with r4|⟨y,hy,hn⟩
   ·omega
   ·rcases Nat.eq_or_lt_of_le hir with e|e
    ·subst e;exact ⟨_,hi,Nh _⟩
    ·obtain ⟨hy1,rfl⟩:=List.getElem?_eq_some_iff.1 hy;have:=List.pairwise_iff_getElem.1 (h.so m.Key) r i hy1 hi1 e;rw [hi2] at this;exact absurd this hn
 refine ⟨r,b,e,r1,hb,fun hf hm=>h.put hm r1 r3 ?_⟩;rcases r4 with r4|⟨y,hy,hn⟩
 ·exact .inl r4
 ·right;refine ⟨y,hy,?_⟩;rcases Y0 (x:=y) (y:=m.Vals) with c|c|c
  ·exact absurd c hn
  ·have:b=true:=r2.2 ⟨y,hy,c⟩;rw [hf] at this;cases this
  ·exact c
end Go.Proofs.YtkbjbnkkfifbmaaGreat
namespace Go.Proofs.YtkbjbnkkfifbmaaGreat
open Go Go.RowKit Go.Eng
set_option maxRecDepth 10000
set_option linter.unusedVariables false
set_option linter.unusedSimpArgs false
theorem SN.lk {F:Nat} {s:mosaic_Spec} {N:mosaic_Node} (h:SN F s N) {L:List (mosaic_where×List api_Span)} (hL:LV F s L):SN F s ⟨N.spec,N.radars,N.horizon,N.kept,N.count,L⟩:=⟨⟨h.ni.spec,h.ni.radars,h.ni.nd,h.ni.ok,h.ni.count,hL⟩,h.so,h.vs⟩
instance lawfulBA:LawfulBEq ByteArray where
 eq_of_beq:=fun h=>(baE _ _).1 h
 rfl:=(baE _ _).2 rfl
theorem msgs_has {N:mosaic_Node} {m:mosaic_Message}:m∈Ku N↔has N m:=A0u
theorem A0a {B:List (mosaic_Key×List (List api_Span))} (hn:(B.map (·.1)).Nodup):((B.map (·.1)).flatMap fun k=>(kl B k).map (mosaic_Message.mk k)).length=tot B:=by
 induction B with
 | nil=>rfl
 | cons p B ih =>
  rw [List.map_cons,List.nodup_cons] at hn;rw [List.map_cons,List.flatMap_cons,List.length_append,List.length_map];have e1:tot (p::B)=p.2.length+tot B:=by simp [tot]
  have e2:kl (p::B) p.1=p.2:=by unfold kl lkM;rw [if_pos rfl];rfl
  have e3:((B.map (·.1)).flatMap fun k=>(kl (p::B) k).map (mosaic_Message.mk k))=(B.map (·.1)).flatMap fun k=>(kl B k).map (mosaic_Message.mk k):=by
   have fm:∀l:List mosaic_Key,(∀x∈l,x∈B.map (·.1))→(l.flatMap fun k=>(kl (p::B) k).map (mosaic_Message.mk k))=l.flatMap fun k=>(kl B k).map (mosaic_Message.mk k):=by
    intro l
    induction l with
    | nil=>intro _;rfl
    | cons x l ih =>
     intro hx;rw [List.flatMap_cons,List.flatMap_cons,ih fun y hy=>hx y (.tail _ hy)];have:kl (p::B) x=kl B x:=by
      unfold kl;show (if x=p.1 then some p.2 else lkM B x).getD []=_;rw [if_neg (fun e:x=p.1=>hn.1 (e▸hx x (.head _)))]
     rw [this]
   exact fm _ fun x hx=>hx
  rw [e1,e2,e3,ih hn.2]
theorem Kv {F:Nat} {s:mosaic_Spec} {N:mosaic_Node} (h:NI F s N):(Ku N).length=tot N.kept:=by
 have:=(List.Perm.flatMap_right (fun k=>(kl N.kept k).map (mosaic_Message.mk k)) (F4 N).2.1).length_eq;exact this.trans (A0a h.nd)
end Go.Proofs.YtkbjbnkkfifbmaaGreat
namespace Go.Proofs.YtkbjbnkkfifbmaaGreat
open Go Go.RowKit Go.Eng
set_option maxRecDepth 10000
set_option linter.unusedVariables false
set_option linter.unusedSimpArgs false
theorem A6v:∀(k f:Nat) (n:Int) (l:List Int),0≤n→n<128 ^ (k+1)→n≤4000000000000000000→k<f→l.length+k≤1000000000→∃l',Cb f l n=some l'∧l'.length≤l.length+k+1:=by
 intro k
 induction k with
 | zero =>
  intro f n l h0 h1 _ hf hl;obtain ⟨f,rfl⟩:∃g,f=g+1:=⟨f-1,by omega⟩;rw [Cb];unfold E2;rw [B2 (dF (by omega))];unfold E3;rw [Kd (by simp;omega) (by decide)];exact ⟨_,rfl,by simp⟩
 | succ k ih =>
  intro f n l h0 h1 h2 hf hl;obtain ⟨f,rfl⟩:∃g,f=g+1:=⟨f-1,by omega⟩;rw [Cb];unfold E2
  by_cases hc:n≥128
  ·have hm0:=Int.tmod_nonneg 128 h0;have hm1:=Int.tmod_lt_of_pos n (show (0:Int)<128 by omega);have hd:n/128<128 ^ (k+1):=by
    rw [Int.pow_succ] at h1;exact Int.ediv_lt_of_lt_mul (by omega) h1
   rw [Bn (dT hc),Gy (by omega),ckb (by omega),Kd (by simp;omega) (by decide),Xh h0 (by omega) (by omega)];obtain ⟨l',e,hl'⟩:=ih f (n/128) (l++[IntKind.u8.wrap (n.tmod 128+128)]) (by omega) hd (by omega) (by omega) (by simp;omega);exact ⟨l',e,by simp at hl';omega⟩
  ·rw [B2 (dF hc)];unfold E3;rw [Kd (by simp;omega) (by decide)];exact ⟨_,rfl,by simp⟩
theorem Nj {F:Nat} (hF:20≤F) {n:Int} {l:List Int} (h0:0≤n) (h1:n≤1000000000000000000) (hl:l.length≤100000000):∃l',D4 F l n=some l'∧l'.length≤l.length+10:=by
 have h2:n<128 ^ (9+1):=by
  have:(1000000000000000000:Int)<128 ^ 10:=by decide
  show n<128 ^ 10;omega
 obtain ⟨l',e,h⟩:=A6v 9 F n l h0 h2 (by omega) (by omega) (by omega);exact ⟨l',e,by omega⟩
theorem A20 {l:List Int} (hl:l.length≤100000000):∀(n i:Nat) (c:Int),i≤l.length→l.length-i<n→∃k,Du l n c (i:Int)=some k∧k.length=4:=by
 intro n
 induction n with
 | zero=>intro i c _ h;omega
 | succ n ih =>
  intro i c hi hn;rw [Du];unfold H9
  by_cases hc:i<l.length
  ·rw [Bn (dT (by omega)),Dk i l[i] rfl (List.getElem?_eq_getElem hc),ckb (by omega)];exact ih (i+1) _ hc (by omega)
  ·rw [B2 (dF (by omega))];exact ⟨_,rfl,rfl⟩
theorem A58 {F:Nat} {l:List Int} (hl:l.length<F) (h2:l.length≤100000000):∃B,By F l=some B:=by
 obtain ⟨k,e,hk⟩:=A20 h2 F 0 1 (Nat.zero_le _) (by omega);unfold By K3;rw [show (0:Int)=((0:Nat):Int) from rfl,e,sbd,Kd (by omega) (by decide)];exact ⟨_,rfl⟩
theorem Z6 {F A:Nat} {x:Int} {k2:Int→List Int→Option (List Int)} {u:mosaic_Message} (hF:20≤F) (hu:u.Vals.length≤1000) (hv:∀v∈u.Vals,0≤v.Lo∧v.Lo≤v.Hi∧v.Hi≤1000000) (hx:0≤x∧x≤1000000) (hA:A≤1000000)
  (hk:∀l:List Int,l.length≤A+20*u.Vals.length→∃B,k2 (x+1) l=some B) :
  ∀(n i:Nat) (l:List Int),i≤u.Vals.length→u.Vals.length-i<n→l.length≤A+20*i→∃B,Bk F x k2 u n l (i:Int)=some B:=by
 intro n
 induction n with
 | zero=>intro i l _ h;omega
 | succ n ih =>
  intro i l hi hn hl;rw [Bk];unfold D6
  by_cases hc:i<u.Vals.length
  ·obtain ⟨v1,v2,v3⟩:=hv _ (List.getElem_mem hc);obtain ⟨l1,e1,q1⟩:=Nj (F:=F) hF (n:=u.Vals[i].Lo) (l:=l) v1 (by omega) (by omega);obtain ⟨l2,e2,q2⟩:=Nj (F:=F) hF (n:=u.Vals[i].Hi-u.Vals[i].Lo) (l:=l1) (by omega) (by omega) (by omega);rw [Bn (dT (by omega)),Dk i u.Vals[i] rfl (List.getElem?_eq_getElem hc),ckb (by omega),e1,sbd,e2,sbd,ckb (by omega)];exact ih (i+1) l2 hc (by omega) (by omega)
  ·rw [B2 (dF (by omega))];unfold D7;rw [ckb (by omega)];exact hk l (by omega)
theorem Z7 {F P:Nat} {M:List mosaic_Message} (hF:2000≤F) (hP:P≤500) (hM:∀m∈M,m.Vals.length=P∧(∀v∈m.Vals,0≤v.Lo∧v.Lo≤v.Hi∧v.Hi≤1000000)∧m.Key.Name.size≤30∧(0≤m.Key.Tilt∧m.Key.Tilt≤256)∧(0≤m.Key.Time∧m.Key.Time≤4294967296)) (hl:M.length≤50) (hb:100+M.length*(60+20*P)<F) :
  ∀(n i:Nat) (l:List Int),i≤M.length→M.length-i<n→l.length≤100+i*(60+20*P)→∃B,Bg F M n (i:Int) l=some B:=by
 intro n
 induction n with
 | zero=>intro i l _ h;omega
 | succ n ih =>
  intro i l hi hn hll;rw [Bg];unfold D5;have hbi:i*(60+20*P)≤M.length*(60+20*P):=Nat.mul_le_mul_right _ hi;have hbm:M.length*(60+20*P)≤50*10060:=Nat.mul_le_mul hl (by omega)
  by_cases hc:i<M.length
  ·obtain ⟨m1,m2,m3,m4,m5⟩:=hM _ (List.getElem_mem hc);have hs:(sby M[i].Key.Name).length=M[i].Key.Name.size:=by unfold sby;rw [List.length_map];rfl
   obtain ⟨l1,e1,q1⟩:=Nj (F:=F) (by omega) (n:=((M[i].Key.Name.size:Nat):Int)) (l:=l) (by omega) (by omega) (by omega);obtain ⟨l2,e2,q2⟩:=Nj (F:=F) (by omega) (n:=M[i].Key.Tilt) (l:=l1++sby M[i].Key.Name) m4.1 (by omega) (by simp;omega);obtain ⟨l3,e3,q3⟩:=Nj (F:=F) (by omega) (n:=M[i].Key.Time) (l:=l2) m5.1 (by omega) (by simp at q2;omega);rw [Bn (dT (by omega)),Dk i M[i] rfl (List.getElem?_eq_getElem hc),e1,sbd,Kd (by omega) (by decide),e2,sbd,e3,sbd];have hA:l3.length≤100+i*(60+20*P)+60:=by simp at q2;omega
   refine Z6 (A:=100+i*(60+20*P)+60) (by omega) (by omega) m2 (by omega) (by omega) (fun k hk=>?_) F 0 l3 (Nat.zero_le _) (by omega) (by omega);have:=ih (i+1) k hc (by omega) (by rw [Nat.succ_mul];omega);exact this
  ·rw [B2 (dF (by omega))];exact A58 (by omega) (by omega)
theorem A1e {F:Nat} {s:mosaic_Spec} {N:mosaic_Node} (hF:2000≤F) (hs:GS F s) (h:SN F s N) (hnm:∀m,has N m→m.Key.Name.size≤30) (ht:tot N.kept≤50) (hb:100+tot N.kept*(60+20*pix s)<F) (hh:0≤N.horizon∧N.horizon≤4294967296) :
  ∃B,As F N=some B:=by
 have hsm:=hs.small;have hc:=h.ni.count;have hm:=Kv h.ni;obtain ⟨l1,e1,q1⟩:=Nj (F:=F) (by omega) (n:=N.horizon) (l:=[82,68,77,49]) hh.1 (by omega) (by simp);obtain ⟨l2,e2,q2⟩:=Nj (F:=F) (by omega) (n:=N.count) (l:=l1) (by omega) (by omega) (by simp at q1;omega);unfold As B5;rw [sbd,cond_false,e1,sbd,e2,sbd,S7 (by omega) hs h.ni (by omega),sbd];refine Z7 (P:=pix s) hF hsm (fun m hmm=>?_) (by omega) (by rw [hm];omega) F 0 l2 (Nat.zero_le _) (by omega) (by simp at q1;omega);have hhas:=msgs_has.1 hmm;have hok:=h.okm hhas;exact ⟨hok.len,hok.vals,hnm m hhas,hok.key.2.1,hok.key.2.2⟩
end Go.Proofs.YtkbjbnkkfifbmaaGreat
namespace Go.Proofs.YtkbjbnkkfifbmaaGreat
open Go Go.RowKit Go.Eng
set_option maxRecDepth 10000
set_option linter.unusedVariables false
set_option linter.unusedSimpArgs false
def gBd (u:mosaic_used) (p:Nat):api_Span:=(u.bands[p]?).getD default
def gVl (u:mosaic_used) (p:Nat):api_Span:=(u.vals[p]?).getD default
def Ve (p:Nat) (a b:mosaic_used):Bool:=!(sEq a.Key.Name b.Key.Name)&&Av (gBd b p)&&!(Bj (gBd a p) (gBd b p))&&Bj (gVl a p) (gVl b p)
def Ng (p:Nat) (a:mosaic_used) (l:List mosaic_used):List mosaic_Clash:=(l.filter (Ve p a)).map fun b=>⟨p,a.Key,b.Key⟩
def S9 (p:Nat):List mosaic_used→List mosaic_Clash
 | []=>[]
 | a::l=>(if Av (gBd a p) then Ng p a l else [])++S9 p l
def Zx (P:Nat) (l:List mosaic_used):List mosaic_Clash:=(List.range P).flatMap fun p=>S9 p l
theorem Sa (p:Nat) (a:mosaic_used) (l:List mosaic_used):(Ng p a l).length≤l.length:=by
 unfold Ng;rw [List.length_map];exact List.length_filter_le _ _
theorem Vd (p:Nat) (l:List mosaic_used) (n:Nat) (h:l.length≤n):(S9 p l).length≤l.length*n:=by
 induction l with
 | nil=>simp [S9]
 | cons a l ih =>
  unfold S9;rw [List.length_append,List.length_cons,Nat.add_mul];rw [List.length_cons] at h;have h1:=ih (by omega);have h2:=Sa p a l;have h3:(if Av (gBd a p)=true then Ng p a l else []).length≤l.length:=by split<;>simp [h2]
  omega
abbrev YC:=List mosaic_Clash×Int×List (mosaic_where×List api_Span)
theorem Zy {p i:Nat} {k4:Int→List mosaic_Clash→Option YC} {u:mosaic_used} {l:List mosaic_used} {P:Nat} (hu:u.bands.length=P∧u.vals.length=P) (hl:∀x∈l,x.bands.length=P∧x.vals.length=P) (hp:p<P) (hn:l.length≤10000) (hi:i≤100000) :
  ∀(n j:Nat) (acc:List mosaic_Clash),j≤l.length→l.length-j<n→acc.length+(l.length-j)≤1000000000000→Br (p:Int) (i:Int) k4 u l n (j:Int) acc=k4 ((i:Int)+1) (acc++Ng p u (l.drop j)):=by
 intro n
 induction n with
 | zero=>intro j acc _ h;omega
 | succ n ih =>
  intro j acc hj hn' ha;rw [Br];unfold El
  by_cases hc:j<l.length
  ·obtain ⟨b,hb⟩:∃b,b=l[j]:=⟨_,rfl⟩;have hbl:=hl l[j] (List.getElem_mem hc);rw [←hb] at hbl;have hgb:l[j]? = some b:=by rw [hb];exact List.getElem?_eq_getElem hc
   have b1:b.bands[p]? = some (gBd b p):=by unfold gBd;rw [List.getElem?_eq_getElem (by omega)];rfl
   have b2:u.bands[p]? = some (gBd u p):=by unfold gBd;rw [List.getElem?_eq_getElem (by omega)];rfl
   have b3:b.vals[p]? = some (gVl b p):=by unfold gVl;rw [List.getElem?_eq_getElem (by omega)];rfl
   have b4:u.vals[p]? = some (gVl u p):=by unfold gVl;rw [List.getElem?_eq_getElem (by omega)];rfl
   have q1:j+1≤l.length:=hc;have q2:l.length-(j+1)<n:=by omega
   have hd:l.drop j=b::l.drop (j+1):=by rw [List.drop_eq_getElem_cons hc,←hb]
   have no:∀acc',Ve p u b=false→acc'=acc→C5 (j:Int) (Br (p:Int) (i:Int) k4 u l n) acc'=k4 ((i:Int)+1) (acc++Ng p u (l.drop j)):=by
    rintro acc' h0 rfl;unfold C5;rw [ckb (by omega),hd];unfold Ng;rw [List.filter_cons_of_neg (by rw [h0];decide)];exact ih (j+1) acc' q1 q2 (by omega)
   rw [Bn (dT (by omega)),Dk j b rfl hgb]
   cases hname:sEq u.Key.Name b.Key.Name with
   | true =>
    rw [gdF (g:=(true==false&&true)) rfl,sbd,gdF (g:=((bif true then true else _)==false&&true)) rfl,sbd,gdF (g:=((bif true then true else _)==false&&true)) rfl,sbd,gdF (g:=((bif (bif true then true else _) then true else _)==false&&true)) rfl,sbd,gdF (g:=((bif (bif true then true else _) then true else _)==false&&true)) rfl,sbd,Bn (c:=bif (bif (bif true then true else _) then true else _) then true else _) rfl];exact no acc (by unfold Ve;rw [hname];rfl) rfl
   | false =>
    rw [gdT (g:=(false==false&&true)) rfl,Dk p _ rfl b1]
    cases hseen:Av (gBd b p) with
    | false =>
     rw [gdF (g:=((bif false then true else (!false))==false&&true)) rfl,sbd,gdF (g:=((bif false then true else (!false))==false&&true)) rfl,sbd,gdF (g:=((bif (bif false then true else (!false)) then true else _)==false&&true)) rfl,sbd,gdF (g:=((bif (bif false then true else (!false)) then true else _)==false&&true)) rfl,sbd,Bn (c:=bif (bif (bif false then true else (!false)) then true else _) then true else _) rfl];exact no acc (by unfold Ve;rw [hname,hseen];rfl) rfl
    | true =>
     rw [gdT (g:=((bif false then true else (!true))==false&&true)) rfl,Dk p _ rfl b2,gdT (g:=((bif false then true else (!true))==false&&true)) rfl,Dk p _ rfl b1]
     cases hap:Bj (gBd u p) (gBd b p) with
     | true =>
      rw [gdF (g:=((bif (bif false then true else (!true)) then true else true)==false&&true)) rfl,sbd,gdF (g:=((bif (bif false then true else (!true)) then true else true)==false&&true)) rfl,sbd,Bn (c:=bif (bif (bif false then true else (!true)) then true else true) then true else _) rfl];exact no acc (by unfold Ve;rw [hname,hseen,hap];rfl) rfl
     | false =>
      rw [gdT (g:=((bif (bif false then true else (!true)) then true else false)==false&&true)) rfl,Dk p _ rfl b4,gdT (g:=((bif (bif false then true else (!true)) then true else false)==false&&true)) rfl,Dk p _ rfl b3]
      cases hv:Bj (gVl u p) (gVl b p) with
      | false =>
       rw [Bn (c:=bif (bif (bif false then true else (!true)) then true else false) then true else (!false)) rfl];exact no acc (by unfold Ve;rw [hname,hseen,hap,hv];rfl) rfl
      | true =>
       rw [B2 (c:=bif (bif (bif false then true else (!true)) then true else false) then true else (!true)) rfl,Kd (by simp;omega) (by decide)];unfold C5;rw [ckb (by omega),hd];have h0:Ve p u b=true:=by unfold Ve;rw [hname,hseen,hap,hv];rfl
       unfold Ng;rw [List.filter_cons_of_pos h0,List.map_cons];have:=ih (j+1) (acc++[⟨p,u.Key,b.Key⟩]) q1 q2 (by simp;omega);rw [List.append_assoc,List.singleton_append] at this;exact this
  ·rw [B2 (dF (by omega)),List.drop_eq_nil_of_le (by omega)];unfold Ci;rw [ckb (by omega)];show _=k4 ((i:Int)+1) (acc++[]);rw [List.append_nil]
theorem A41 {F P:Nat} {Y:YU} {p:Nat} {k2:Int→List mosaic_Clash→Option YC} (hY:∀u∈Y.1,u.bands.length=P∧u.vals.length=P) (hp:p<P) (hP:P≤10000) (hl:Y.1.length<F) (hl2:Y.1.length≤1000) :
  ∀(n i:Nat) (acc:List mosaic_Clash),i≤Y.1.length→Y.1.length-i<n→acc.length+1000*(Y.1.length-i)≤100000000000→Bi F Y (p:Int) k2 n (i:Int) acc=k2 ((p:Int)+1) (acc++S9 p (Y.1.drop i)):=by
 intro n
 induction n with
 | zero=>intro i acc _ h;omega
 | succ n ih =>
  intro i acc hi hn ha;rw [Bi];unfold Ek
  by_cases hc:i<Y.1.length
  ·obtain ⟨u,hu⟩:∃u,u=Y.1[i]:=⟨_,rfl⟩;have hul:=hY Y.1[i] (List.getElem_mem hc);rw [←hu] at hul;have hgu:Y.1[i]? = some u:=by rw [hu];exact List.getElem?_eq_getElem hc
   have b2:u.bands[p]? = some (gBd u p):=by unfold gBd;rw [List.getElem?_eq_getElem (by omega)];rfl
   have hd:Y.1.drop i=u::Y.1.drop (i+1):=by rw [List.drop_eq_getElem_cons hc,←hu]
   have q1:i+1≤Y.1.length:=hc;have q2:Y.1.length-(i+1)<n:=by omega
   rw [Bn (dT (by omega)),Dk i u rfl hgu,Dk p _ rfl b2,hd];unfold S9
   cases hseen:Av (gBd u p) with
   | false =>
    rw [Bn (c:=!false) rfl,if_neg (by decide),List.nil_append];unfold Ci;rw [ckb (by omega)];exact ih (i+1) acc q1 q2 (by omega)
   | true =>
    have hcut:Lm Y.1 ((i:Int)+1) ((Y.1.length:Nat):Int)=some (Y.1.drop (i+1)):=by
     unfold Lm;rw [if_pos (by omega),show ((i:Int)+1).toNat=i+1 by omega,List.take_of_length_le (by simp)]
    rw [B2 (c:=!true) rfl,if_pos rfl,ckb (by omega),hcut,sbd];have hr:=Sa p u (Y.1.drop (i+1));rw [List.length_drop] at hr;have e:Br (p:Int) (i:Int) (Bi F Y (p:Int) k2 n) u (Y.1.drop (i+1)) F 0 acc=_ :=
     Zy (k4:=Bi F Y (p:Int) k2 n) (i:=i) hul (fun x hx=>hY x (List.mem_of_mem_drop hx)) hp (by rw [List.length_drop];omega) (by omega) F 0 acc (Nat.zero_le _) (by rw [List.length_drop];omega) (by rw [List.length_drop];omega)
    rw [e,List.drop_zero];have:=ih (i+1) (acc++Ng p u (Y.1.drop (i+1))) q1 q2 (by rw [List.length_append];omega);rw [List.append_assoc] at this;exact this
  ·rw [B2 (dF (by omega)),List.drop_eq_nil_of_le (by omega)];unfold Eo;rw [ckb (by omega)];show _=k2 ((p:Int)+1) (acc++[]);rw [List.append_nil]
theorem Zz {F P:Nat} {Y:YU} (hY:∀u∈Y.1,u.bands.length=P∧u.vals.length=P) (hP:P≤10000) (hl:Y.1.length<F) (hl2:Y.1.length≤1000) :
  ∀(n p:Nat) (acc:List mosaic_Clash),p≤P→P-p<n→acc.length+1000000*(P-p)≤50000000000→Bq F Y (P:Int) n (p:Int) acc=some (acc++((List.range P).drop p).flatMap (fun p=>S9 p Y.1),0,Y.2):=by
 intro n
 induction n with
 | zero=>intro i acc _ h;omega
 | succ n ih =>
  intro p acc hp hn ha;rw [Bq];unfold Ej
  by_cases hc:p<P
  ·have q1:p+1≤P:=hc;have q2:P-(p+1)<n:=by omega
   have hlen:=Vd p Y.1 1000 hl2;have hlen2:(S9 p Y.1).length≤1000000:=Nat.le_trans hlen (by omega);rw [Bn (dT (by omega))];have e:Bi F Y (p:Int) (Bq F Y (P:Int) n) F 0 acc=_:=A41 (k2:=Bq F Y (P:Int) n) hY hc hP hl hl2 F 0 acc (Nat.zero_le _) (by omega) (by omega);rw [e,List.drop_zero];have:=ih (p+1) (acc++S9 p Y.1) q1 q2 (by rw [List.length_append];omega);rw [List.append_assoc] at this;rw [List.drop_eq_getElem_cons (show p<(List.range P).length by simpa using hc),List.flatMap_cons,List.getElem_range];exact this
  ·rw [B2 (dF (by omega)),List.drop_eq_nil_of_le (by simp;omega)];unfold Em;rw [List.flatMap_nil,List.append_nil]
theorem S5 {F:Nat} {s:mosaic_Spec} {N:mosaic_Node} {t:Int} (hF:1000≤F) (hs:GS F s) (h:NI F s N) (hn:tot N.kept<900) (ht:0≤t∧t≤4294967296) (hh:N.horizon≤t) :
  ∃L,Bb F N t=some (Zx (pix s) ((K8 s N t).map (Dj F s N)),0,L)∧LV F s L:=by
 obtain ⟨L,e,hL⟩:=A3i (t:=t) hF hs h hn (by omega);have hp:=Xg hs;have hsm:=hs.small;have hul:((K8 s N t).map (Dj F s N)).length≤tot N.kept:=by
  rw [List.length_map];exact Nat.le_trans (List.length_filter_le _ _) h.small
 refine ⟨L,?_,hL⟩;unfold Bb;rw [V9 ht hh,sbd,B2 (c:=(0:Int) != 0) rfl,e,sbd,h.spec,hp.1,ckb (by omega)];have:=Zz (F:=F) (P:=pix s) (Y:=((K8 s N t).map (Dj F s N),L)) (Wq hF hs h) (by omega) (by show ((K8 s N t).map (Dj F s N)).length<F;omega) (by show ((K8 s N t).map (Dj F s N)).length≤1000;omega) F 0 [] (by omega) (by omega) (by simp;omega);rw [List.drop_zero,List.nil_append] at this;exact this
end Go.Proofs.YtkbjbnkkfifbmaaGreat
namespace Go.Proofs.YtkbjbnkkfifbmaaGreat
open Go Go.RowKit Go.Eng
set_option maxRecDepth 10000
set_option linter.unusedVariables false
set_option linter.unusedSimpArgs false
structure Same (F:Nat) (s:mosaic_Spec) (N N':mosaic_Node):Prop where
 a:SN F s N
 b:SN F s N'
 hz:N.horizon=N'.horizon
 hs:∀x,has N x↔has N' x
section
variable {F:Nat} {s:mosaic_Spec} {N N':mosaic_Node}
theorem Same.kl (h:Same F s N N') (k:mosaic_Key):kl N.kept k=Go.Proofs.YtkbjbnkkfifbmaaGreat.kl N'.kept k:=h.a.kl_eq h.b h.hs k
theorem A0m (h:NI F s N) {k:mosaic_Key}:k∈ksN N↔kl N.kept k≠[]:=by
 constructor
 ·exact fun hk=>(h.key hk).2
 ·intro hk;rw [Un];unfold kl at hk
  cases e:lkM N.kept k with
  | none=>rw [e] at hk;exact absurd rfl hk
  | some l=>exact ⟨l,rfl⟩
theorem Same.ks (h:Same F s N N'):ksN N=ksN N':=by
 refine T1 ((List.perm_ext_iff_of_nodup h.a.ni.nd h.b.ni.nd).2 fun k=>?_);rw [←(F4 N).2.1.mem_iff,←(F4 N').2.1.mem_iff,A0m h.a.ni,A0m h.b.ni,h.kl]
theorem Same.ms (h:Same F s N N'):Ku N=Ku N':=by
 unfold Ku;rw [h.ks]
 congr 1
 funext k
 rw [h.kl]
theorem Same.tot (h:Same F s N N'):tot N.kept=Go.Proofs.YtkbjbnkkfifbmaaGreat.tot N'.kept:=by
 rw [←Kv h.a.ni,←Kv h.b.ni,h.ms]
theorem Same.cnt (h:Same F s N N'):N.count=N'.count:=by rw [h.a.ni.count,h.b.ni.count,h.tot]
theorem Same.fit (h:Same F s N N') (t:Int):Ln s N t=Ln s N' t:=by
 funext k
 unfold Ln;rw [h.kl]
theorem Same.use (h:Same F s N N') (t:Int):K8 s N t=K8 s N' t:=by
 unfold K8 Rw;rw [h.ks,h.fit]
theorem Same.usd (h:Same F s N N') (t:Int):(K8 s N t).map (Dj F s N)=(K8 s N' t).map (Dj F s N'):=by
 rw [h.use]
 congr 1
 funext k
 unfold Dj;rw [h.kl]
theorem Same.lk (h:Same F s N N') {L L':List (mosaic_where×List api_Span)} (hL:LV F s L) (hL':LV F s L'):Same F s ⟨N.spec,N.radars,N.horizon,N.kept,N.count,L⟩ ⟨N'.spec,N'.radars,N'.horizon,N'.kept,N'.count,L'⟩ :=
 ⟨h.a.lk hL,h.b.lk hL',h.hz,h.hs⟩
theorem Same.snap (h:Same F s N N') (hF:1000≤F) (hg:GS F s) (ht:Go.Proofs.YtkbjbnkkfifbmaaGreat.tot N.kept<900):As F N=As F N':=by
 unfold As B5;rw [S7 hF hg h.a.ni ht,S7 hF hg h.b.ni (by rw [←h.tot];exact ht),h.hz,h.cnt,h.ms]
end
theorem S3 {F:Nat} {N:mosaic_Node} {t:Int} (h0:0≤t∧t≤4294967296) (hh:¬N.horizon≤t):Cl F N t=some 17:=by
 unfold Cl B5;rw [sbd,cond_false,Km h0,B2 (c:=!true) rfl,Bn (dT (by omega))]
theorem A0q {F:Nat} {s:mosaic_Spec} {N N':mosaic_Node} {t:Int} (hF:1000≤F) (hs:GS F s) (h:Same F s N N') (hn:tot N.kept<900) (ht:0≤t∧t≤4294967296) :
  ∃(o o':List mosaic_Pixel) (e:Int) (L L':List (mosaic_where×List api_Span)),Bl F N t=some (o,e,L)∧Bl F N' t=some (o',e,L')∧LV F s L∧LV F s L'∧o.length=o'.length∧o.length≤500∧∀(p:Nat) (x x':mosaic_Pixel),o[p]? = some x→o'[p]? = some x'→x=x':=by
 by_cases hh:N.horizon≤t
 ·obtain ⟨o,L,a1,a2,a3,a4⟩:=Zg hF hs h.a.ni hn ht hh;obtain ⟨o',L',b1,b2,b3,b4⟩:=Zg hF hs h.b.ni (by rw [←h.tot];exact hn) ht (by rw [←h.hz];exact hh);refine ⟨o,o',0,L,L',a1,b1,a2,b2,a3.trans b3.symm,by have:=hs.small;omega,fun p x x' hx hx'=>?_⟩;exact A12 (fun _=>False) (fun k _=>by rw [h.use]) (fun k _ _=>h.kl k) (a4 p x hx) (b4 p x' hx') id id
 ·have e1:Bl F N t=some ([],17,N.looks):=by
   unfold Bl;rw [S3 ht hh,sbd,Bn (c:=(17:Int) != 0) rfl]
  have e2:Bl F N' t=some ([],17,N'.looks):=by
   unfold Bl;rw [S3 ht (by rw [←h.hz];exact hh),sbd,Bn (c:=(17:Int) != 0) rfl]
  exact ⟨[],[],17,_,_,e1,e2,h.a.ni.looks,h.b.ni.looks,rfl,by simp,fun p x x' hx=>by simp at hx⟩
theorem A00 {F:Nat} {s:mosaic_Spec} {N N':mosaic_Node} {t:Int} (hF:1000≤F) (hs:GS F s) (h:Same F s N N') (hn:tot N.kept<30) (ht:0≤t∧t≤4294967296) :
  ∃(o:List mosaic_Clash) (e:Int) (L L':List (mosaic_where×List api_Span)),Bb F N t=some (o,e,L)∧Bb F N' t=some (o,e,L')∧LV F s L∧LV F s L'∧o.length≤pix s*900:=by
 by_cases hh:N.horizon≤t
 ·obtain ⟨L,a1,a2⟩:=S5 hF hs h.a.ni (by omega) ht hh;obtain ⟨L',b1,b2⟩:=S5 hF hs h.b.ni (by have:=h.tot;omega) ht (by rw [←h.hz];exact hh);rw [←h.usd] at b1;refine ⟨_,0,L,L',a1,b1,a2,b2,?_⟩;have hul:((K8 s N t).map (Dj F s N)).length≤30:=by
   rw [List.length_map];have h1:(K8 s N t).length≤(ksN N).length:=List.length_filter_le _ _;have h2:=h.a.ni.small;omega
  have hsm:=hs.small;unfold Zx;have:∀P:Nat,((List.range P).flatMap fun p=>S9 p ((K8 s N t).map (Dj F s N))).length≤P*900:=by
   intro P
   induction P with
   | zero=>simp
   | succ P ih =>
    rw [List.range_succ,List.flatMap_append,List.length_append,List.flatMap_singleton];have:=Vd P _ 30 hul;have h3:((K8 s N t).map (Dj F s N)).length*30≤30*30:=Nat.mul_le_mul_right _ hul;omega
  exact this (pix s)
 ·have e1:Bb F N t=some ([],17,N.looks):=by
   unfold Bb;rw [S3 ht hh,sbd,Bn (c:=(17:Int) != 0) rfl]
  have e2:Bb F N' t=some ([],17,N'.looks):=by
   unfold Bb;rw [S3 ht (by rw [←h.hz];exact hh),sbd,Bn (c:=(17:Int) != 0) rfl]
  exact ⟨[],17,_,_,e1,e2,h.a.ni.looks,h.b.ni.looks,by simp⟩
abbrev EQ:=List (mosaic_where×List api_Span)→List (mosaic_where×List api_Span)→Int→Option (Bool×List (mosaic_where×List api_Span)×List (mosaic_where×List api_Span))
theorem A6s {x:Int} {k2:EQ} {o:List mosaic_Clash} {e:Int} {L L':List (mosaic_where×List api_Span)} (hl:o.length≤1000000):∀(n i:Nat),i≤o.length→o.length-i<n→Gf x k2 (o,e,L) (o,e,L') n (i:Int)=Hm x k2 L' L:=by
 intro n
 induction n with
 | zero=>intro i _ h;omega
 | succ n ih =>
  intro i hi hn;rw [Gf];unfold Jx;rw [show (o,e,L).1=o from rfl]
  by_cases hc:i<o.length
  ·rw [Bn (dT (by omega)),Dk i o[i] rfl (List.getElem?_eq_getElem hc),Dk i o[i] rfl (List.getElem?_eq_getElem hc),B2 (by simp),ckb (by omega)];exact ih (i+1) hc (by omega)
  ·rw [B2 (dF (by omega))]
theorem A2p (x:mosaic_Pixel):((((x.Value_.Lo:Int)==x.Value_.Lo)&&(((x.Value_.Hi:Int)==x.Value_.Hi)&&true))&&(((x.Key.Name==x.Key.Name)&&(((x.Key.Tilt:Int)==x.Key.Tilt)&&(((x.Key.Time:Int)==x.Key.Time)&&true)))&&true))=true:=by
 rw [A4c,dT rfl];simp
theorem A6t {F:Nat} {p0 p1:mosaic_Node} {p2:List Int} {x:Int} {k2:EQ} {o o':List mosaic_Pixel} {e:Int} {L L':List (mosaic_where×List api_Span)} (hl:o.length=o'.length) (hl2:o.length≤500) (he:∀(p:Nat) (x x':mosaic_Pixel),o[p]? = some x→o'[p]? = some x'→x=x') :
  ∀(n i:Nat),i≤o.length→o.length-i<n→Gg F p0 p1 p2 x k2 (o,e,L) (o',e,L') n (i:Int)=Ho F p0 p1 p2 x k2 (o,e,L) (o',e,L'):=by
 intro n
 induction n with
 | zero=>intro i _ h;omega
 | succ n ih =>
  intro i hi hn;rw [Gg];unfold Jy;rw [show (o,e,L).1=o from rfl,show (o',e,L').1=o' from rfl]
  by_cases hc:i<o.length
  ·obtain ⟨y,hy⟩:∃y,o[i]? = some y:=⟨_,List.getElem?_eq_getElem hc⟩;obtain ⟨y',hy'⟩:∃y,o'[i]? = some y:=⟨_,List.getElem?_eq_getElem (by omega)⟩;have:=he i y y' hy hy';subst this;rw [Bn (dT (by omega)),Dk i y rfl hy,Dk i y rfl hy',A2p,B2 (c:=!true) rfl,ckb (by omega)];exact ih (i+1) hc (by omega)
  ·rw [B2 (dF (by omega))]
theorem A48 {F:Nat} {s:mosaic_Spec} {N N':mosaic_Node} {ts:List Int} (hF:1000≤F) (hF2:20000≤F) (hpx:pix s≤16) (hs:GS F s) (h:Same F s N N') (hn:tot N.kept<30) (hts:∀t∈ts,0≤t∧t≤65535) (hl:ts.length≤100) :
  ∀(n i:Nat) (L' L:List (mosaic_where×List api_Span)),i≤ts.length→ts.length-i<n→LV F s L→LV F s L'→∃A B,Ge F N N' ts n L' L (i:Int)=some (true,A,B)∧LV F s A∧LV F s B:=by
 intro n
 induction n with
 | zero=>intro i L' L _ h;omega
 | succ n ih =>
  intro i L' L hi hnn hL hL';rw [Ge];unfold Jw
  by_cases hc:i<ts.length
  ·have ht:=hts _ (List.getElem_mem hc);obtain ⟨o,o',e,L1,L1',a1,a2,a3,a4,a5,a6,a7⟩:=A0q hF hs (h.lk hL hL') (show tot N.kept<900 by omega) (t:=ts[i]) (by omega);obtain ⟨c,f,L2,L2',b1,b2,b3,b4,b5⟩:=A00 hF hs (h.lk a3 a4) (show tot N.kept<30 by omega) (t:=ts[i]) (by omega);rw [Bn (dT (by omega)),Dk i ts[i] rfl (List.getElem?_eq_getElem hc),ckb (by omega),a1,sbd,Dk i ts[i] rfl (List.getElem?_eq_getElem hc),ckb (by omega),a2,sbd];rw [B2 (c:=bif ((o,e,L1).2.1 != (o',e,L1').2.1) then true else ((((o,e,L1).1.length:Nat):Int) != (((o',e,L1').1.length:Nat):Int))) (by
    show (bif (e != e) then true else ((o.length:Int) != (o'.length:Int)))=false;rw [a5];simp)]
   obtain ⟨A,B,q1,q2,q3⟩:=ih (i+1) L2' L2 hc (by omega) b3 b4;refine ⟨A,B,?_,q2,q3⟩;refine (A6t (L:=L1) (L':=L1') a5 a6 a7 F 0 (Nat.zero_le _) (by omega)).trans ?_;unfold Ho;rw [Dk i ts[i] rfl (List.getElem?_eq_getElem hc),ckb (by omega)];rw [show (o,e,L1).2.2=L1 from rfl,b1,sbd,Dk i ts[i] rfl (List.getElem?_eq_getElem hc),ckb (by omega),show (o',e,L1').2.2=L1' from rfl,b2,sbd];rw [B2 (c:=bif ((c,f,L2).2.1 != (c,f,L2').2.1) then true else ((((c,f,L2).1.length:Nat):Int) != (((c,f,L2').1.length:Nat):Int))) (by
    show (bif (f != f) then true else ((c.length:Int) != (c.length:Int)))=false;simp)]
   have hcl:c.length≤14400:=Nat.le_trans b5 (Nat.mul_le_mul_right 900 hpx);refine (A6s (by omega) F 0 (Nat.zero_le _) (by omega)).trans ?_;unfold Hm;rw [ckb (by omega)];exact q1
  ·rw [B2 (dF (by omega))];exact ⟨L,L',rfl,hL,hL'⟩
theorem Vn {F:Nat} {s:mosaic_Spec} {N N':mosaic_Node} {ts:List Int} (hF:20000≤F) (hs:GS F s) (h:Same F s N N') (hn:tot N.kept<30) (hb:pix s≤16) (hnm:∀m,has N m→m.Key.Name.size≤30) (hh:0≤N.horizon∧N.horizon≤4294967296) (hts:∀t∈ts,0≤t∧t≤65535) (hl:ts.length≤100) :
  ∃A B,Jk F N N' ts=some (true,A,B)∧LV F s A∧LV F s B:=by
 have hbb:tot N.kept*(60+20*pix s)≤30*380:=Nat.mul_le_mul (by omega) (by omega);obtain ⟨S,e1⟩:=A1e (F:=F) (by omega) hs h.a hnm (by omega) (by omega) hh;have e2:As F N'=some S:=by rw [←h.snap (by omega) hs (by omega)];exact e1
 have k1:=(F4 N).1;have k2:=(F4 N').1;have k3:=h.a.ni.small;have k4:=h.b.ni.small;have k5:=h.tot;have c1:=Qd h.a.ni (show tot N.kept<900 by omega);have c2:=Qd h.b.ni (show tot N'.kept<900 by omega);have hzn:∀M:mosaic_Node,Dg F M=some M.horizon:=fun M=>by unfold Dg B5;rw [sbd,cond_false]
 have ec:((ksN N).filter fun k=>decide (2≤(kl N.kept k).length))=((ksN N').filter fun k=>decide (2≤(kl N'.kept k).length)):=by
  rw [h.ks]
  congr 1
  funext k
  rw [h.kl]
 rw [←ec] at c2;unfold Jk;rw [e1,sbd,e2,sbd,Uz.2 rfl,B2 (c:=!true) rfl,hzn,sbd,hzn,sbd,h.hz,B2 (c:=(N'.horizon != N'.horizon)) (by simp),M5 (by omega),sbd,M5 (by omega),sbd,h.ks,B2 (by simp),c1,sbd,c2,sbd,B2 (by simp)];exact A48 (by omega) hF hb hs h hn hts hl F 0 N'.looks N.looks (Nat.zero_le _) (by omega) h.a.ni.looks h.b.ni.looks
end Go.Proofs.YtkbjbnkkfifbmaaGreat
namespace Go.Proofs.YtkbjbnkkfifbmaaGreat
open Go Go.RowKit Go.Eng
set_option maxRecDepth 10000
set_option linter.unusedVariables false
set_option linter.unusedSimpArgs false
theorem Ew {ε α β:Type} {x:α} {f:ε→β} {g:α→β}:exc (.ok x) f g=g x:=rfl
theorem Mi {ε α β:Type} {e:ε} {f:ε→β} {g:α→β}:exc (.error e) f g=f e:=rfl
def Byt (l:List Int):Prop:=∀x∈l,0≤x∧x≤255
theorem A43 {α:Type} {l:List α} {k:Nat} (h:k≤l.length):Lm l 0 (k:Int)=some (l.take k):=by
 unfold Lm;rw [if_pos (by omega),Int.toNat_natCast,Int.toNat_zero,List.drop_zero,Nat.sub_zero]
theorem A44 {α:Type} {l:List α} {k:Nat} (h:k≤l.length):Lm l (k:Int) ((l.length:Nat):Int)=some (l.drop k):=by
 unfold Lm;rw [if_pos (by omega),Int.toNat_natCast,Int.toNat_natCast,List.take_of_length_le (by rw [List.length_drop];omega)]
theorem A6j {sh:Nat} {v c:Int} (hsh:sh≤28) (hv:0≤v∧v<((2 ^ sh:Nat):Int)) (hc:0≤c∧c<128):∃y,A1b .i64 c (sh:Int)=some y∧orK .i64 v y=v+c*((2 ^ sh:Nat):Int):=by
 have hp:2 ^ sh≤2 ^ 28:=Nat.pow_le_pow_right (by omega) hsh;have hp2:(2 ^ 28:Nat)=268435456:=by decide
 rw [hp2] at hp;obtain ⟨a,rfl⟩:=Int.eq_ofNat_of_zero_le hv.1;obtain ⟨b,rfl⟩:=Int.eq_ofNat_of_zero_le hc.1;have hb:b≤127:=by omega
 have ha:a<2 ^ sh:=by omega
 have hm:b*2 ^ sh≤127*2 ^ sh:=Nat.mul_le_mul_right _ hb;have e2:((b:Int)*((2 ^ sh:Nat):Int))=((b*2 ^ sh:Nat):Int):=(Int.natCast_mul _ _).symm;refine ⟨((b*2 ^ sh:Nat):Int),?_,?_⟩
 ·unfold A1b;have e1:min ((sh:Int)).toNat IntKind.i64.bits=sh:=by
   rw [Int.toNat_natCast];exact Nat.min_eq_left (show sh≤64 by omega)
  have e3:((2:Int) ^ sh)=((2 ^ sh:Nat):Int):=(Int.natCast_pow 2 sh).symm;rw [if_pos (by omega),e1,e3,e2,A1r (by omega)]
 ·have h64:((2 ^ IntKind.i64.bits:Nat):Int)=18446744073709551616:=by decide
  have e:(BitVec.ofInt IntKind.i64.bits (a:Int) ||| BitVec.ofInt IntKind.i64.bits ((b*2 ^ sh:Nat):Int)).toNat=a+b*2 ^ sh:=by
   rw [BitVec.toNat_or,BitVec.toNat_ofInt,BitVec.toNat_ofInt,h64,Int.emod_eq_of_lt (by omega) (by omega),Int.emod_eq_of_lt (by omega) (by omega),Int.toNat_natCast,Int.toNat_natCast,Nat.or_comm,Nat.mul_comm b,←Nat.two_pow_add_eq_or_of_lt ha b,Nat.add_comm]
  unfold orK;rw [e,A1r (by omega),e2];omega
theorem Byt.drop {l:List Int} (h:Byt l) (k:Nat):Byt (l.drop k):=fun x hx=>h x (List.mem_of_mem_drop hx)
theorem A26 {a b:List Int} (hl:a.length=b.length) (h9:a.length≤1000000):∀(n i:Nat),i≤a.length→a.length-i<n→Ca a b n (i:Int)=some (decide (a.drop i=b.drop i)):=by
 intro n
 induction n with
 | zero=>intro i _ h;omega
 | succ n ih =>
  intro i hi hn;rw [Ca];unfold Dw
  by_cases hc:i<a.length
  ·have hc':i<b.length:=by omega
   rw [Bn (dT (by omega)),Dk i _ rfl (List.getElem?_eq_getElem hc),Dk i _ rfl (List.getElem?_eq_getElem hc'),List.drop_eq_getElem_cons hc,List.drop_eq_getElem_cons hc']
   by_cases e:a[i]=b[i]
   ·rw [B2 (c:=a[i] != b[i]) (by simpa using e),ckb (by omega)];refine (ih (i+1) hc (by omega)).trans (congrArg some (decide_eq_decide.2 ⟨fun h=>by rw [e,h],fun h=>?_⟩));injection h
   ·rw [Bn (c:=a[i] != b[i]) (by simpa using e),dF (fun h=>by injection h with h1 h2;exact e h1)]
  ·rw [B2 (dF (by omega)),List.drop_eq_nil_of_le (by omega),List.drop_eq_nil_of_le (by omega),dT rfl];rfl
theorem V4 {F:Nat} {a b:List Int} (h9:a.length≤1000000) (hF:a.length<F):Cr F a b=some (decide (a=b)):=by
 unfold Cr
 by_cases hl:a.length=b.length
 ·have:=A26 hl h9 F 0 (Nat.zero_le _) (by omega);rw [List.drop_zero,List.drop_zero] at this;rw [B2 (by rw [hl];simp)];exact this
 ·rw [Bn (by rw [bne_iff_ne];omega),dF (fun e=>hl (by rw [e]))]
def Kw:Nat→Int→List Int
 | 0,n=>[IntKind.u8.wrap n]
 | k+1,n=>if n≥128 then IntKind.u8.wrap (n.tmod 128+128)::Kw k (n/128) else [IntKind.u8.wrap n]
theorem Vz:∀(k:Nat) (n:Int),(Kw k n).length≤k+1
 | 0,_=>Nat.le_refl _
 | k+1,n=>by
  unfold Kw
  split
  ·rw [List.length_cons];have:=Vz k (n/128);omega
  ·simp
theorem u8B (x:Int):0≤IntKind.u8.wrap x∧IntKind.u8.wrap x≤255:=by rw [IntKind.wrap_u8];omega
theorem Kx:∀(k:Nat) (n:Int),Byt (Kw k n)
 | 0,n=>fun x hx=>by
  have:x∈[IntKind.u8.wrap n]:=hx;rw [List.mem_singleton.1 this];exact u8B _
 | k+1,n=>fun x hx=>by
  unfold Kw at hx
  split at hx
  ·rcases List.mem_cons.1 hx with e|e
   ·rw [e];exact u8B _
   ·exact Kx k _ x e
  ·rw [List.mem_singleton.1 hx];exact u8B _
theorem To:∀(k j:Nat) (n:Int),n<128 ^ (k+1)→Kw (k+j) n=Kw k n
 | 0,j,n,h=>by
  have h:n<128:=by simpa using h
  rw [Nat.zero_add]
  cases j with
  | zero=>rfl
  | succ j =>
   show (if n≥128 then _ else _)=_;rw [if_neg (by omega)];rfl
 | k+1,j,n,h=>by
  rw [show k+1+j=(k+j)+1 by omega];show (if n≥128 then _::Kw (k+j) (n/128) else _)=(if n≥128 then _::Kw k (n/128) else _)
  by_cases hc:n≥128
  ·rw [if_pos hc,if_pos hc,To k j (n/128) (by rw [Int.pow_succ] at h;exact Int.ediv_lt_of_lt_mul (by omega) h)]
  ·rw [if_neg hc,if_neg hc]
theorem A5y:∀(k f:Nat) (n:Int) (l:List Int),0≤n→n<128 ^ (k+1)→n≤4000000000000000000→k<f→l.length+k≤1000000000→Cb f l n=some (l++Kw k n):=by
 intro k
 induction k with
 | zero =>
  intro f n l h0 h1 _ hf hl;obtain ⟨f,rfl⟩:∃g,f=g+1:=⟨f-1,by omega⟩;rw [Cb];unfold E2;rw [B2 (dF (by omega))];unfold E3;rw [Kd (by simp;omega) (by decide)];rfl
 | succ k ih =>
  intro f n l h0 h1 h2 hf hl;obtain ⟨f,rfl⟩:∃g,f=g+1:=⟨f-1,by omega⟩;rw [Cb];unfold E2
  by_cases hc:n≥128
  ·have hm0:=Int.tmod_nonneg 128 h0;have hm1:=Int.tmod_lt_of_pos n (show (0:Int)<128 by omega);have hd:n/128<128 ^ (k+1):=by
    rw [Int.pow_succ] at h1;exact Int.ediv_lt_of_lt_mul (by omega) h1
   have e:Kw (k+1) n=IntKind.u8.wrap (n.tmod 128+128)::Kw k (n/128):=by rw [Kw,if_pos hc]
   rw [Bn (dT hc),Gy (by omega),ckb (by omega),Kd (by simp;omega) (by decide),Xh h0 (by omega) (by omega),e];have q1:=ih f (n/128) (l++[IntKind.u8.wrap (n.tmod 128+128)]) (by omega) hd (by omega) (by omega) (by simp;omega);rw [List.append_assoc,List.singleton_append] at q1;exact q1
  ·have e:Kw (k+1) n=[IntKind.u8.wrap n]:=by rw [Kw,if_neg hc]
   rw [B2 (dF hc),e];unfold E3;rw [Kd (by simp;omega) (by decide)]
abbrev nmB (n:Int):List Int:=Kw 9 n
theorem A67:(1000000000000000000:Int)<128 ^ (9+1):=by decide
theorem Xe {F:Nat} (hF:20≤F) {n:Int} {l:List Int} (h0:0≤n) (h1:n≤1000000000000000000) (hl:l.length≤100000000):D4 F l n=some (l++nmB n) :=
 A5y 9 F n l h0 (Int.lt_of_le_of_lt h1 A67) (by omega) (by omega) (by omega)
theorem Hj (n:Int):(nmB n).length≤10:=Vz 9 n
theorem S4 {F n i:Nat} {c v:Int} {l:List Int} (hi:i≤4) (hc:0≤c∧c≤255) (h0:0≤v) (h1:v<((2 ^ (7*i):Nat):Int)) :
  Ay F (n+1) (c::l) v ((7*i:Nat):Int)=bif decide (c<128) then some (.ok (v+c.tmod 128*((2 ^ (7*i):Nat):Int),⟨l⟩)) else Ay F n l (v+c.tmod 128*((2 ^ (7*i):Nat):Int)) ((7*(i+1):Nat):Int):=by
 have t0:=Int.tmod_nonneg 128 hc.1;have t1:=Int.tmod_lt_of_pos c (show (0:Int)<128 by omega);have c1:Lm (c::l) (0:Int) 1=some [c]:=A43 (l:=c::l) (k:=1) (by simp);have c2:Lm (c::l) 1 (((c::l).length:Nat):Int)=some l:=A44 (l:=c::l) (k:=1) (by simp);have g0:∀{β:Type} (f:Int→Option β),(Bo [c] 0).bind f=f c:=fun f=>rfl;obtain ⟨y,s1,s2⟩:=A6j (sh:=7*i) (v:=v) (c:=c.tmod 128) (by omega) ⟨h0,h1⟩ ⟨t0,t1⟩;rw [Ay];unfold D8;rw [Bn (dT (by omega))];unfold Ao Cq;rw [B2 (c:=decide ((1:Int)>(((c::l).length:Nat):Int))) (dF (by simp;omega)),c1,sbd,c2,sbd,sbd,Ew,g0,ckb (by omega),Gy (by omega),s1,sbd,ckb (by omega),s2];rw [show ((7*i:Nat):Int)+7=((7*(i+1):Nat):Int) by omega]
theorem pw7 {i:Nat} (hi:i≤4):1≤2 ^ (7*i)∧2 ^ (7*i)≤268435456∧(2 ^ (7*(i+1)):Nat)=2 ^ (7*i)*128:=by
 have hp:2 ^ (7*i)≤2 ^ 28:=Nat.pow_le_pow_right (by omega) (by omega);have hp2:(2 ^ 28:Nat)=268435456:=by decide
 exact ⟨Nat.one_le_two_pow,by omega,by rw [show 7*(i+1)=7*i+7 by omega,Nat.pow_add]⟩
theorem tmB {c v:Int} {i:Nat} (hi:i≤4) (hc:0≤c∧c≤255) (h0:0≤v) (h1:v<((2 ^ (7*i):Nat):Int)):0≤v+c.tmod 128*((2 ^ (7*i):Nat):Int)∧v+c.tmod 128*((2 ^ (7*i):Nat):Int)<((2 ^ (7*(i+1)):Nat):Int)∧v+c.tmod 128*((2 ^ (7*i):Nat):Int)<34359738368:=by
 have t0:=Int.tmod_nonneg 128 hc.1;have t1:=Int.tmod_lt_of_pos c (show (0:Int)<128 by omega);obtain ⟨p1,p2,p3⟩:=pw7 hi;have hm1:c.tmod 128*((2 ^ (7*i):Nat):Int)≤127*((2 ^ (7*i):Nat):Int):=Int.mul_le_mul_of_nonneg_right (by omega) (by omega);have hm2:0≤c.tmod 128*((2 ^ (7*i):Nat):Int):=Int.mul_nonneg t0 (by omega);rw [p3];generalize c.tmod 128*((2 ^ (7*i):Nat):Int)=z at *;generalize 2 ^ (7*i)=q at *;omega
theorem A5z {F:Nat} {r:List Int}:∀(k n i:Nat) (x v:Int),i+k≤4→k<n→0≤x→x<128 ^ (k+1)→0≤v→v<((2 ^ (7*i):Nat):Int) →
  Ay F n (Kw k x++r) v ((7*i:Nat):Int)=some (.ok (v+x*((2 ^ (7*i):Nat):Int),⟨r⟩)):=by
 intro k
 induction k with
 | zero =>
  intro n i x v hi hn hx h2 h0 h1;obtain ⟨n,rfl⟩:∃m,n=m+1:=⟨n-1,by omega⟩;have h2:x<128:=by simpa using h2
  have e:Kw 0 x=[x]:=by show [IntKind.u8.wrap x]=[x];rw [IntKind.wrap_u8];congr 1;omega
  rw [e,List.singleton_append,S4 (by omega) (by omega) h0 h1,Bn (dT h2),Int.tmod_eq_of_lt hx h2]
 | succ k ih =>
  intro n i x v hi hn hx h2 h0 h1;obtain ⟨n,rfl⟩:∃m,n=m+1:=⟨n-1,by omega⟩
  by_cases hc:x≥128
  ·have hm:x.tmod 128=x%128:=Int.tmod_eq_emod_of_nonneg hx;have e:Kw (k+1) x=(x%128+128)::Kw k (x/128):=by
    rw [Kw,if_pos hc,hm,IntKind.wrap_u8];congr 1;omega
   have e2:(x%128+128).tmod 128=x%128:=by rw [Int.tmod_eq_emod_of_nonneg (by omega)];omega
   have hb:=tmB (c:=x%128+128) (v:=v) (i:=i) (by omega) (by omega) h0 h1;have hd:x/128<128 ^ (k+1):=by
    rw [Int.pow_succ] at h2;exact Int.ediv_lt_of_lt_mul (by omega) h2
   rw [e,List.cons_append,S4 (by omega) (by omega) h0 h1,B2 (dF (by omega))];rw [e2] at hb ⊢;rw [ih n (i+1) (x/128) _ (by omega) (by omega) (by omega) hd hb.1 hb.2.1];obtain ⟨_,_,p3⟩:=pw7 (i:=i) (by omega);rw [p3];have e3:((2 ^ (7*i)*128:Nat):Int)=((2 ^ (7*i):Nat):Int)*128:=Int.natCast_mul _ _;rw [e3];generalize ((2 ^ (7*i):Nat):Int)=q;have e4:x=x%128+128*(x/128):=by omega
   have e5:x*q=x%128*q+x/128*(q*128):=by
    conv=>lhs;rw [e4]
    rw [Int.add_mul,Int.mul_assoc,←Int.mul_assoc (x/128) q 128,Int.mul_comm (x/128*q) 128]
   rw [e5,Int.add_assoc]
  ·have e:Kw (k+1) x=[x]:=by
    rw [Kw,if_neg hc,IntKind.wrap_u8];congr 1;omega
   rw [e,List.singleton_append,S4 (by omega) (by omega) h0 h1,Bn (dT (by omega)),Int.tmod_eq_of_lt hx (by omega)]
theorem Sx {F:Nat} {x:Int} {r:List Int} (hF:10≤F) (h0:0≤x) (h1:x<34359738368):A8 F ⟨nmB x++r⟩=some (.ok (x,⟨r⟩)):=by
 have h2:x<128 ^ (4+1):=by
  have:(128:Int) ^ (4+1)=34359738368:=by decide
  omega
 have:=A5z (F:=F) (r:=r) 4 F 0 x 0 (by omega) (by omega) h0 h2 (Int.le_refl _) (by decide);unfold A8;rw [show nmB x=Kw 4 x from To 4 5 x h2];refine this.trans ?_;rw [show ((2 ^ (7*0):Nat):Int)=1 from rfl,Int.mul_one,Int.zero_add]
theorem A4k {F:Nat}:∀(k n i:Nat) (l:List Int) (v:Int),i+k=5→k<n→0≤v→v<((2 ^ (7*i):Nat):Int)→Byt l →
  (∃(x:Int) (r:List Int),Ay F n l v ((7*i:Nat):Int)=some (.ok (x,⟨r⟩))∧0≤x∧x<34359738368∧r.length<l.length∧∀y∈r,y∈l) ∨
  (∃y,Ay F n l v ((7*i:Nat):Int)=some (.error (.iface 204 (.agg #[]),y))):=by
 intro k
 induction k with
 | zero =>
  intro n i l v hi hn h0 h1 hb;obtain ⟨n,rfl⟩:∃m,n=m+1:=⟨n-1,by omega⟩;obtain rfl:i=5:=by omega
  right;rw [Ay];exact ⟨_,rfl⟩
 | succ k ih =>
  intro n i l v hi hn h0 h1 hb;obtain ⟨n,rfl⟩:∃m,n=m+1:=⟨n-1,by omega⟩
  cases l with
  | nil =>
   right;rw [Ay];unfold D8;rw [Bn (dT (by omega))];exact ⟨_,rfl⟩
  | cons c l =>
   have hc:=hb c (.head _);have hv:=tmB (c:=c) (v:=v) (i:=i) (by omega) hc h0 h1;rw [S4 (by omega) hc h0 h1]
   by_cases hlt:c<128
   ·left;rw [Bn (dT hlt)];exact ⟨_,l,rfl,hv.1,hv.2.2,by simp,fun y hy=>.tail _ hy⟩
   ·rw [B2 (dF hlt)];rcases ih n (i+1) l _ (by omega) (by omega) hv.1 hv.2.1 (fun x hx=>hb x (.tail _ hx)) with ⟨x,r,a1,a3,a4,a5,a6⟩|⟨x,a1⟩
    ·exact .inl ⟨x,r,a1,a3,a4,by simp;omega,fun y hy=>.tail _ (a6 y hy)⟩
    ·exact .inr ⟨x,a1⟩
theorem Xd {F:Nat} {l:List Int} (hF:10≤F) (hb:Byt l) :
  (∃(x:Int) (r:List Int),A8 F ⟨l⟩=some (.ok (x,⟨r⟩))∧0≤x∧x<34359738368∧r.length<l.length∧∀y∈r,y∈l) ∨
  (∃y,A8 F ⟨l⟩=some (.error (.iface 204 (.agg #[]),y))) :=
 A4k (F:=F) 5 F 0 l 0 rfl (by omega) (Int.le_refl _) (by decide) hb
theorem A1j {F:Nat} {l:List Int} {n:Int} (h0:0≤n) :
  (∃k:Nat,n=k∧k≤l.length∧Ao F ⟨l⟩ n=some (.ok (l.take k,⟨l.drop k⟩))) ∨
  (Ao F ⟨l⟩ n=some (.error (.iface 204 (.agg #[]),⟨l⟩))):=by
 obtain ⟨k,rfl⟩:=Int.eq_ofNat_of_zero_le h0;unfold Ao Cq
 by_cases hc:k≤l.length
 ·left;refine ⟨k,rfl,hc,?_⟩;rw [B2 (dF (by show ¬(k:Int)>((l.length:Nat):Int);omega))];show (Lm l 0 (k:Int)).bind _=_;rw [A43 hc,sbd];show (Lm l (k:Int) ((l.length:Nat):Int)).bind _=_;rw [A44 hc,sbd]
 ·right;rw [Bn (dT (by show (k:Int)>((l.length:Nat):Int);omega))]
theorem A16 {F:Nat} {a r:List Int}:Ao F ⟨a++r⟩ ((a.length:Nat):Int)=some (.ok (a,⟨r⟩)):=by
 rcases A1j (F:=F) (l:=a++r) (n:=((a.length:Nat):Int)) (by omega) with ⟨k,k1,k2,k3⟩|k3
 ·obtain rfl:k=a.length:=by omega
  rw [k3,List.take_left',List.drop_left']<;>rfl
 ·exfalso;unfold Ao Cq at k3;rw [B2 (dF (by show ¬((a.length:Nat):Int)>(((a++r).length:Nat):Int);rw [List.length_append];omega)),show Lm (⟨a++r⟩:mosaic_reader).left 0 ((a.length:Nat):Int)=_ from A43 (l:=a++r) (by simp),sbd,show Lm (⟨a++r⟩:mosaic_reader).left ((a.length:Nat):Int) (((⟨a++r⟩:mosaic_reader).left.length:Nat):Int)=_ from A44 (l:=a++r) (by simp),sbd] at k3
  cases k3
theorem A1x (s:ByteArray):bst (sby s)=s:=by
 unfold sby bst
 cases s with
 | mk d =>
  congr 1
  apply Array.toList_inj.1;simp only [List.map_map]
  conv=>rhs;rw [←List.map_id d.toList]
  apply List.map_congr_left;intro x hx;simp
theorem A33 (x:Int):IntKind.u32.wrap x=x%4294967296:=by rw [IntKind.wrap_u32]
def chF:Int→List Int→Int
 | c,[]=>c
 | c,u::l=>chF ((31*c+u+1)%4294967296) l
def chB (c:Int):List Int:=[IntKind.u8.wrap (Int.fdiv c 16777216),IntKind.u8.wrap (Int.fdiv c 65536),IntKind.u8.wrap (Int.fdiv c 256),IntKind.u8.wrap c]
theorem Xy (c:Int):Byt (chB c):=by
 intro x hx;unfold chB at hx;simp only [List.mem_cons,List.not_mem_nil,or_false] at hx;rcases hx with e|e|e|e<;>(rw [e];exact u8B _)
theorem Ub:∀{l:List Int} {c:Int},0≤c∧c<4294967296→0≤chF c l∧chF c l<4294967296
 | [],_,h=>h
 | u::l,c,h=>Ub (l:=l) (by omega)
theorem A1z {c d:Int} (hc:0≤c∧c<4294967296) (hd:0≤d∧d<4294967296) (h:chB c=chB d):c=d:=by
 unfold chB at h;simp only [List.cons.injEq,and_true] at h;obtain ⟨h1,h2,h3,h4⟩:=h;rw [Int.fdiv_eq_ediv_of_nonneg _ (by omega),Int.fdiv_eq_ediv_of_nonneg _ (by omega),IntKind.wrap_u8,IntKind.wrap_u8] at h1 h2 h3;rw [IntKind.wrap_u8,IntKind.wrap_u8] at h4;omega
theorem Zu:∀{l:List Int} {c d:Int},0≤c∧c<4294967296→0≤d∧d<4294967296→c≠d→chF c l≠chF d l
 | [],_,_,_,_,h=>h
 | u::l,c,d,hc,hd,h=>Zu (l:=l) (by omega) (by omega) (by omega)
theorem Xz:∀{l:List Int} {k:Nat} {b c:Int},Byt l→(0≤b∧b≤255)→(0≤c∧c<4294967296)→(hk:k<l.length)→l[k]≠b→chF c (l.set k b)≠chF c l
 | [],k,b,c,_,_,_,hk,_=>by simp at hk
 | u::l,0,b,c,hl,hb,hc,_,hne=>by
  have hu:=hl u (.head _);have hne:u≠b:=hne;show chF ((31*c+b+1)%4294967296) l≠chF ((31*c+u+1)%4294967296) l;exact Zu (by omega) (by omega) (by omega)
 | u::l,k+1,b,c,hl,hb,hc,hk,hne=>by
  show chF ((31*c+u+1)%4294967296) (l.set k b)≠chF ((31*c+u+1)%4294967296) l;exact Xz (fun x hx=>hl x (.tail _ hx)) hb (by omega) (by simpa using hk) hne
theorem Zv {l:List Int} (hb:Byt l) (h9:l.length≤100000000):∀(n i:Nat) (c:Int),i≤l.length→l.length-i<n→0≤c∧c<4294967296 →
  Du l n c (i:Int)=some (chB (chF c (l.drop i))):=by
 intro n
 induction n with
 | zero=>intro i c _ h;omega
 | succ n ih =>
  intro i c hi hn hc;rw [Du];unfold H9
  by_cases h:i<l.length
  ·have hu:=hb _ (List.getElem_mem h);have e:IntKind.u32.wrap ((IntKind.u32.wrap ((IntKind.u32.wrap (31*c))+(IntKind.u32.wrap l[i])))+1)=(31*c+l[i]+1)%4294967296:=by
    rw [A33,A33,A33,A33];omega
   rw [Bn (dT (by omega)),Dk i _ rfl (List.getElem?_eq_getElem h),ckb (by omega),e,List.drop_eq_getElem_cons h];exact ih (i+1) _ h (by omega) (by omega)
  ·rw [B2 (dF (by omega)),List.drop_eq_nil_of_le (by omega)];rfl
theorem A40 {F:Nat} {l:List Int} (hb:Byt l) (h9:l.length≤100000000) (hF:l.length<F):K3 F l=some (chB (chF 1 l)):=by
 have:=Zv hb h9 F 0 1 (Nat.zero_le _) (by omega) (by decide);rw [List.drop_zero] at this;exact this
def Mn (v:api_Span):List Int:=nmB v.Lo++nmB (v.Hi-v.Lo)
def A2d (k:mosaic_Key):List Int:=nmB ((k.Name.size:Nat):Int)++(sby k.Name++(nmB k.Tilt++nmB k.Time))
def Jr (m:mosaic_Message):List Int:=A2d m.Key++m.Vals.flatMap Mn
theorem R0 (s:ByteArray):(sby s).length=s.size:=by unfold sby;rw [List.length_map];rfl
theorem A1o (v:api_Span):(Mn v).length≤20:=by
 unfold Mn;rw [List.length_append];have:=Hj v.Lo;have:=Hj (v.Hi-v.Lo);omega
theorem Tw:∀l:List api_Span,(l.flatMap Mn).length≤20*l.length
 | []=>by simp
 | v::l=>by
  rw [List.flatMap_cons,List.length_append,List.length_cons];have:=A1o v;have:=Tw l;omega
theorem Vw {m:mosaic_Message} (h:m.Key.Name.size≤40):(Jr m).length≤70+20*m.Vals.length:=by
 unfold Jr A2d;rw [List.length_append,List.length_append,List.length_append,List.length_append,R0];have:=Hj ((m.Key.Name.size:Nat):Int);have:=Hj m.Key.Tilt;have:=Hj m.Key.Time;have:=Tw m.Vals;omega
theorem Byt.app {a b:List Int} (h:Byt a) (k:Byt b):Byt (a++b):=fun x hx=>(List.mem_append.1 hx).elim (h x) (k x)
theorem A2w (s:ByteArray):Byt (sby s):=by
 intro x hx;unfold sby at hx;obtain ⟨b,_,rfl⟩:=List.mem_map.1 hx;have:=UInt8.toNat_lt b;omega
theorem A1n (v:api_Span):Byt (Mn v):=(Kx _ _).app (Kx _ _)
theorem A0t (m:mosaic_Message):Byt (Jr m):=by
 refine ((Kx _ _).app ((A2w _).app ((Kx _ _).app (Kx _ _)))).app fun x hx=>?_;obtain ⟨v,_,hv⟩:=List.mem_flatMap.1 hx;exact A1n v x hv
structure SmM (P:Nat) (m:mosaic_Message):Prop where
 len:m.Vals.length=P
 vals:∀v∈m.Vals,0≤v.Lo∧v.Lo≤v.Hi∧v.Hi≤1000000
 name:m.Key.Name.size≤40
 tilt:0≤m.Key.Tilt∧m.Key.Tilt≤256
 time:0≤m.Key.Time∧m.Key.Time≤4294967296
theorem A76 {F:Nat} {x:Int} {k2:Int→List Int→Option (List Int)} {u:mosaic_Message} {P:Nat} (hF:20≤F) (hu:SmM P u) (hP:P≤1000) (hx:0≤x∧x≤1000000) :
  ∀(n i:Nat) (l:List Int),i≤P→P-i<n→l.length≤1000000+20*i→Bk F x k2 u n l (i:Int)=k2 (x+1) (l++(u.Vals.drop i).flatMap Mn):=by
 have hlen:=hu.len;intro n
 induction n with
 | zero=>intro i l _ h;omega
 | succ n ih =>
  intro i l hi hn hl;rw [Bk];unfold D6
  by_cases hc:i<u.Vals.length
  ·obtain ⟨v1,v2,v3⟩:=hu.vals _ (List.getElem_mem hc);have n1:=Hj u.Vals[i].Lo;have n2:=Hj (u.Vals[i].Hi-u.Vals[i].Lo);rw [Bn (dT (by omega)),Dk i u.Vals[i] rfl (List.getElem?_eq_getElem hc),ckb (by omega),Xe hF v1 (by omega) (by omega),sbd,Xe hF (by omega) (by omega) (by simp;omega),sbd,ckb (by omega)];have:=ih (i+1) (l++nmB u.Vals[i].Lo++nmB (u.Vals[i].Hi-u.Vals[i].Lo)) (by omega) (by omega) (by simp;omega);rw [List.drop_eq_getElem_cons hc,List.flatMap_cons,←List.append_assoc];refine this.trans ?_;rw [show Mn u.Vals[i]=nmB u.Vals[i].Lo++nmB (u.Vals[i].Hi-u.Vals[i].Lo) from rfl,←List.append_assoc]
  ·rw [B2 (dF (by omega)),List.drop_eq_nil_of_le (by omega)];unfold D7;rw [ckb (by omega),List.flatMap_nil,List.append_nil]
theorem A6l {F P:Nat} {M:List mosaic_Message} (hF:2000≤F) (hP:P≤500) (hM:∀m∈M,SmM P m) (hl:M.length≤300) (hb:M.length*(70+20*P)≤900000) :
  ∀(n i:Nat) (l:List Int),i≤M.length→M.length-i<n→l.length≤1000+i*(70+20*P)→Bg F M n (i:Int) l=By F (l++(M.drop i).flatMap Jr):=by
 intro n
 induction n with
 | zero=>intro i l _ h;omega
 | succ n ih =>
  intro i l hi hn hll;rw [Bg];unfold D5;have hbi:i*(70+20*P)≤M.length*(70+20*P):=Nat.mul_le_mul_right _ hi
  by_cases hc:i<M.length
  ·have hu:=hM _ (List.getElem_mem hc);have hk:=hu.name;have ht:=hu.tilt;have hm:=hu.time;have hz:=hu.len;have s1:=R0 M[i].Key.Name;have n1:=Hj ((M[i].Key.Name.size:Nat):Int);have n2:=Hj M[i].Key.Tilt;have n3:=Hj M[i].Key.Time;have n4:=Vw hk;rw [Bn (dT (by omega)),Dk i _ rfl (List.getElem?_eq_getElem hc),Xe (by omega) (by omega) (by omega) (by omega),sbd,Kd (by simp;omega) (by decide),Xe (by omega) ht.1 (by omega) (by simp;omega),sbd,Xe (by omega) hm.1 (by omega) (by simp;omega),sbd];have:=A76 (F:=F) (x:=i) (k2:=Bg F M n) (by omega) hu (by omega) (by omega) F 0 (l++nmB ((M[i].Key.Name.size:Nat):Int)++sby M[i].Key.Name++nmB M[i].Key.Tilt++nmB M[i].Key.Time) (Nat.zero_le _) (by omega) (by simp;omega);refine this.trans ?_;have e:l++nmB ((M[i].Key.Name.size:Nat):Int)++sby M[i].Key.Name++nmB M[i].Key.Tilt++nmB M[i].Key.Time++(M[i].Vals.drop 0).flatMap Mn=l++Jr M[i]:=by
    unfold Jr A2d;rw [List.drop_zero];simp only [List.append_assoc]
   rw [e,List.drop_eq_getElem_cons hc,List.flatMap_cons,←List.append_assoc];have hq:(i+1)*(70+20*P)=i*(70+20*P)+(70+20*P):=Nat.succ_mul _ _;exact ih (i+1) (l++Jr M[i]) hc (by omega) (by rw [List.length_append,hq];omega)
  ·rw [B2 (dF (by omega)),List.drop_eq_nil_of_le (by omega),List.flatMap_nil,List.append_nil]
theorem Tl {P:Nat}:∀{M:List mosaic_Message},(∀m∈M,SmM P m)→(M.flatMap Jr).length≤M.length*(70+20*P)
 | [],_=>by simp
 | m::M,h=>by
  have h1:=Vw (h m (.head _)).name;have h2:=(h m (.head _)).len;have h3:=Tl fun x hx=>h x (List.Mem.tail m hx);rw [List.flatMap_cons,List.length_append,List.length_cons,Nat.succ_mul];omega
def Bu (N:mosaic_Node):List Int:=[82,68,77,49]++nmB N.horizon++nmB N.count++(Ku N).flatMap Jr
theorem SN.smM {F:Nat} {s:mosaic_Spec} {N:mosaic_Node} (hN:SN F s N) (hnm:∀m,okM s m→m.Key.Name.size≤30):∀m∈Ku N,SmM (pix s) m:=by
 intro m hm;have hok:=hN.okm (msgs_has.1 hm);exact ⟨hok.len,hok.vals,by have:=hnm m hok;omega,hok.key.2.1,hok.key.2.2⟩
theorem P9 (N:mosaic_Node):Byt (Bu N):=by
 refine Byt.app (Byt.app (Byt.app (fun x hx=>?_) (Kx _ _)) (Kx _ _)) fun x hx=>?_
 ·simp only [List.mem_cons,List.not_mem_nil,or_false] at hx;omega
 ·obtain ⟨m,_,hx⟩:=List.mem_flatMap.1 hx;exact A0t m x hx
theorem Mv {F:Nat} {s:mosaic_Spec} {N:mosaic_Node} (hN:SN F s N) (hnm:∀m,okM s m→m.Key.Name.size≤30):(Bu N).length≤24+tot N.kept*(70+20*pix s):=by
 have n1:=Hj N.horizon;have n2:=Hj N.count;have hbl:=Tl (hN.smM hnm);rw [Kv hN.ni] at hbl;unfold Bu;simp only [List.length_append,List.length_cons,List.length_nil];omega
theorem A1d {F:Nat} {s:mosaic_Spec} {N:mosaic_Node} (hs:GS F s) (hN:SN F s N) (hnm:∀m,okM s m→m.Key.Name.size≤30) (ht:tot N.kept≤300) (hP:tot N.kept*(70+20*pix s)≤900000) (hF:2000+tot N.kept*(70+20*pix s)≤F) (hh:0≤N.horizon∧N.horizon≤4294967296) :
  As F N=some (Bu N++chB (chF 1 (Bu N))):=by
 have hp:=hs.small;have hc:=hN.ni.count;have hm:=Kv hN.ni;have hM:=hN.smM hnm;have n1:=Hj N.horizon;have n2:=Hj N.count;have hbo:=Mv hN hnm;have hck:(chB (chF 1 (Bu N))).length=4:=rfl;unfold As B5;rw [sbd,cond_false,Xe (by omega) hh.1 (by omega) (by simp),sbd,Xe (by omega) (by omega) (by omega) (by simp;omega),sbd,S7 (by omega) hs hN.ni (by omega),sbd];have:=A6l (F:=F) (P:=pix s) (M:=Ku N) (by omega) hp hM (by omega) (by rw [hm];omega) F 0 ([82,68,77,49]++nmB N.horizon++nmB N.count) (Nat.zero_le _) (by omega) (by simp;omega);rw [List.drop_zero] at this;refine this.trans ?_;unfold By;rw [show [82,68,77,49]++nmB N.horizon++nmB N.count++(Ku N).flatMap Jr=Bu N from rfl,A40 (P9 N) (by omega) (by omega),sbd,Kd (by omega) (by decide)]
end Go.Proofs.YtkbjbnkkfifbmaaGreat
namespace Go.Proofs.YtkbjbnkkfifbmaaGreat
open Go Go.RowKit Go.Eng
set_option maxRecDepth 10000
set_option linter.unusedVariables false
set_option linter.unusedSimpArgs false
theorem A1q {n a b:Int} (h:Aa n a b=true):a≤n∧n≤b:=by
 unfold Aa at h
 by_cases h1:a≤n
 ·rw [dT h1] at h;exact ⟨h1,of_decide_eq_true (show decide (n≤b)=true from h)⟩
 ·rw [dF h1] at h;cases h
theorem Tm {n a b:Int} (h:Bs n a b=true):a≤n∧n≤b:=A1q h
theorem A0g {v:api_Span} {a b:Int} (h:C8 v a b=true):a≤v.Lo∧v.Lo≤v.Hi∧v.Hi≤b:=by
 unfold C8 at h
 by_cases h1:a≤v.Lo
 ·rw [dT h1] at h
  by_cases h2:v.Lo≤v.Hi
  ·rw [dT h2] at h;exact ⟨h1,h2,of_decide_eq_true (show decide (v.Hi≤b)=true from h)⟩
  ·rw [dF h2] at h;cases h
 ·rw [dF h1] at h;cases h
theorem Xs {m:mosaic_Message} (hl:m.Vals.length≤1000):∀(n i:Nat),i≤m.Vals.length→m.Vals.length-i<n →
  ∃e,C1 m n (i:Int)=some e∧(e=0↔∀v∈m.Vals.drop i,0≤v.Lo∧v.Lo≤v.Hi∧v.Hi≤1000000):=by
 intro n
 induction n with
 | zero=>intro i _ h;omega
 | succ n ih =>
  intro i hi hn;rw [C1];unfold Dx
  by_cases hc:i<m.Vals.length
  ·rw [Bn (dT (by omega)),Dk i m.Vals[i] rfl (List.getElem?_eq_getElem hc),List.drop_eq_getElem_cons hc]
   cases hv:C8 m.Vals[i] 0 1000000 with
   | false =>
    refine ⟨3,rfl,fun h=>absurd h (by decide),fun h=>?_⟩;rw [Qm (h _ (.head _))] at hv;cases hv
   | true =>
    rw [B2 (c:=!true) rfl,ckb (by omega)];obtain ⟨e,h1,h3⟩:=ih (i+1) hc (by omega);refine ⟨e,h1,h3.trans ⟨fun h v hm=>?_,fun h v hm=>h v (.tail _ hm)⟩⟩;rcases List.mem_cons.1 hm with e|e
    ·rw [e];exact A0g hv
    ·exact h v e
  ·rw [B2 (dF (by omega)),List.drop_eq_nil_of_le (by omega)];exact ⟨0,rfl,fun _ v hv=>(by cases hv),fun _=>rfl⟩
theorem A5g {F:Nat} {s:mosaic_Spec} {N:mosaic_Node} {m:mosaic_Message} (hF:2000≤F) (h:GS F s) (hN:NI F s N) (hl:m.Vals.length=pix s) :
  ∃e,Dd F N m=some e∧(e=0↔okM s m):=by
 have hp:=Xg h;have h2:=h.small;unfold Dd;rw [hN.radars]
 cases e1:lkM (radM s) m.Key.Name with
 | none=>exact ⟨4,rfl,fun h=>absurd h (by decide),fun h=>by obtain ⟨y,hy⟩:=h.key.1;rw [e1] at hy;cases hy⟩
 | some y =>
  rw [B2 (c:=!(some y).isSome) rfl]
  cases e2:Bs m.Key.Tilt 0 256 with
  | false=>exact ⟨3,rfl,fun h=>absurd h (by decide),fun h=>by rw [Km h.key.2.1] at e2;cases e2⟩
  | true =>
  cases e3:Bs m.Key.Time 0 4294967296 with
  | false=>exact ⟨3,rfl,fun h=>absurd h (by decide),fun h=>by rw [Km h.key.2.2] at e3;cases e3⟩
  | true =>
   rw [B2 (c:=bif !true then true else !true) rfl,hN.spec,ckb (by omega),B2 (by rw [hp.1,hl];simp)];obtain ⟨e,h4,h6⟩:=Xs (m:=m) (by omega) F 0 (Nat.zero_le _) (by omega);rw [List.drop_zero] at h6;exact ⟨e,h4,h6.trans ⟨fun k=>⟨⟨⟨y,e1⟩,Tm e2,Tm e3⟩,hl,k⟩,fun k=>k.vals⟩⟩
theorem A4t {F:Nat} {s:mosaic_Spec} {N:mosaic_Node} {m:mosaic_Message} (hF:2000≤F) (h:GS F s) (hN:SN F s N) (ht:tot N.kept<256) (hm:m.Vals.length=pix s) :
  (∃b e N',Ax F N m=some (b,e,N')∧(b=false∨e≠0))∨(∃q,Ax F N m=some (true,0,J4 N m q)∧SN F s (J4 N m q)):=by
 have h2:=h.small;have h4:=hN.ni.count;obtain ⟨e,w1,w3⟩:=A5g (m:=m) hF h hN.ni hm;unfold Ax B5;rw [sbd,cond_false,w1,sbd]
 by_cases h0:e=0
 ·subst h0;have hok:=w3.1 rfl;rw [B2 (c:=(0:Int) != 0) rfl]
  by_cases ht2:m.Key.Time<N.horizon
  ·left;rw [Bn (dT ht2)];exact ⟨false,17,N,rfl,.inl rfl⟩
  ·obtain ⟨q,b,e,r1,r2,r3⟩:=Tq (m:=m) (by omega) h hN (by omega);rw [B2 (dF ht2),e,sbd]
   cases b with
   | true =>
    left;exact ⟨false,0,N,rfl,.inl rfl⟩
   | false =>
    right;rw [B2 (c:=((q:Int),false).2) rfl,B2 (dF (by omega)),A15 (by omega) h hN.ni hok (by omega) e r1,sbd];exact ⟨q,rfl,r3 rfl hok⟩
 ·left;rw [Bn (by simpa using h0)];exact ⟨false,e,N,rfl,.inl rfl⟩
theorem Sv {F:Nat} {s:mosaic_Spec} {N:mosaic_Node} {m:mosaic_Message} (hF:2000≤F) (h:GS F s) (hN:SN F s N) (ht:tot N.kept<256) (hm:okM s m) (hh:N.horizon≤m.Key.Time) (hn:¬has N m) :
  ∃q,Ax F N m=some (true,0,J4 N m q)∧SN F s (J4 N m q):=by
 have h4:=hN.ni.count;unfold Ax B5;rw [sbd,cond_false,A1s (by omega) h hN.ni hm,sbd,B2 (c:=(0:Int) != 0) rfl,B2 (dF (by omega))];obtain ⟨q,b,e,r1,r2,r3⟩:=Tq (m:=m) (by omega) h hN (by omega);rw [e,sbd]
 cases b with
 | true=>exact absurd (r2.1 rfl) hn
 | false =>
  rw [B2 (c:=((q:Int),false).2) rfl,B2 (dF (by omega)),A15 (by omega) h hN.ni hm (by omega) e r1,sbd];exact ⟨q,rfl,r3 rfl hm⟩
abbrev A3u:=Option (Except Int (mosaic_Node×Int))
def PL4 (F:Nat) (s:mosaic_Spec) (p1:List Int) (y:Int×mosaic_reader) (n:Nat) (N:mosaic_Node) (l:List Int) (i:Int):A3u:=Ch F s p1 y n N.spec.Grid.X N.spec.Grid.Y N.horizon N.count N.spec.Grid.Size N.spec.Grid.Wide N.spec.Grid.High N.spec.Earth.Lo N.spec.Earth.Hi N.spec.Radars N.spec.Age l N.radars N.kept N.looks i
def PL7 (F:Nat) (s:mosaic_Spec) (p1:List Int) (y:Int×mosaic_reader) (m:Nat) (N:mosaic_Node) (x:Int) (y1:List Int×mosaic_reader) (y2 y3:Int×mosaic_reader) (P:Int) (n:Nat) (l:List Int) (acc:List api_Span) (i:Int):A3u:=Do F N.spec.Grid.X N.spec.Grid.Y N.horizon N.count N.spec.Grid.Size N.spec.Grid.Wide N.spec.Grid.High N.spec.Earth.Lo N.spec.Earth.Hi N.spec.Radars N.spec.Age N.radars N.kept N.looks x (Ch F s p1 y m) y1 y2 y3 P n l acc i
def PK6 (F:Nat) (s:mosaic_Spec) (p1:List Int) (y:Int×mosaic_reader) (m:Nat) (N:mosaic_Node) (x:Int) (y1:List Int×mosaic_reader) (y2 y3:Int×mosaic_reader) (l:List Int) (acc:List api_Span):A3u:=Ei F N.spec.Grid.X N.spec.Grid.Y N.horizon N.count N.spec.Grid.Size N.spec.Grid.Wide N.spec.Grid.High N.spec.Earth.Lo N.spec.Earth.Hi N.spec.Radars N.spec.Age N.radars N.kept N.looks x (Ch F s p1 y m) y1 y2 y3 l acc
theorem Zi {F:Nat} {s:mosaic_Spec} {p1:List Int} {y:Int×mosaic_reader} {m:Nat} {N:mosaic_Node} {x:Int} {y1:List Int×mosaic_reader} {y2 y3:Int×mosaic_reader} {l:List Int} {acc:List api_Span} {b:Bool} {e:Int} {N':mosaic_Node} (h:Ax F N ⟨⟨bst y1.1,y2.1,y3.1⟩,acc⟩=some (b,e,N')) (h2:b=false∨e≠0):PK6 F s p1 y m N x y1 y2 y3 l acc=some (.error 7):=by
 unfold PK6 Ei;rw [show (mosaic_Node.mk (mosaic_Spec.mk (api_Grid.mk N.spec.Grid.X N.spec.Grid.Y N.spec.Grid.Size N.spec.Grid.Wide N.spec.Grid.High) (api_Span.mk N.spec.Earth.Lo N.spec.Earth.Hi) N.spec.Radars N.spec.Age) N.radars N.horizon N.kept N.count N.looks)=N from rfl,h,sbd];rw [Bn (by
  rcases h2 with h2|h2
  ·subst h2;rfl
  ·have e1:(e != 0)=true:=by simpa using h2
   show (bif !b then true else (e != 0))=true;rw [e1];cases b<;>rfl)]
theorem Zj {F:Nat} {s:mosaic_Spec} {p1:List Int} {y:Int×mosaic_reader} {m:Nat} {N:mosaic_Node} {i:Nat} {y1:List Int×mosaic_reader} {y2 y3:Int×mosaic_reader} {l:List Int} {acc:List api_Span} {N':mosaic_Node} (hi:i≤1000) (h:Ax F N ⟨⟨bst y1.1,y2.1,y3.1⟩,acc⟩=some (true,0,N')):PK6 F s p1 y m N (i:Int) y1 y2 y3 l acc=PL4 F s p1 y m N' l ((i+1:Nat):Int):=by
 unfold PK6 Ei;rw [show (mosaic_Node.mk (mosaic_Spec.mk (api_Grid.mk N.spec.Grid.X N.spec.Grid.Y N.spec.Grid.Size N.spec.Grid.Wide N.spec.Grid.High) (api_Span.mk N.spec.Earth.Lo N.spec.Earth.Hi) N.spec.Radars N.spec.Age) N.radars N.horizon N.kept N.count N.looks)=N from rfl,h,sbd,B2 (c:=bif (!((true,(0:Int),N').1)) then true else (((true,(0:Int),N').2.1) != 0)) rfl];unfold Hh;rw [ckb (by omega)];rfl
theorem Pl {F:Nat} {s:mosaic_Spec} {N:mosaic_Node} {m:mosaic_Message} {q:Nat} (h:SN F s N) (h2:SN F s (J4 N m q)):tot (J4 N m q).kept=tot N.kept+1:=by
 have h1:=h.ni.count;have h3:=h2.ni.count;have h4:(J4 N m q).count=N.count+1:=rfl;omega
theorem Xv {F:Nat} {s:mosaic_Spec} {p1:List Int} {y:Int×mosaic_reader} {m:Nat} {N:mosaic_Node} {x:Int} {y1:List Int×mosaic_reader} {y2 y3:Int×mosaic_reader} {P n:Nat} {l:List Int} {acc:List api_Span}:PL7 F s p1 y m N x y1 y2 y3 (P:Int) (n+1) l acc (P:Int)=PK6 F s p1 y m N x y1 y2 y3 l acc:=by
 unfold PL7;rw [Do];unfold Fj;rw [B2 (dF (by omega))];rfl
theorem V7 {F:Nat} {s:mosaic_Spec} {p1:List Int} {y:Int×mosaic_reader} {m:Nat} {N:mosaic_Node} {x:Int} {y1:List Int×mosaic_reader} {y2 y3:Int×mosaic_reader} {P n i:Nat} {l:List Int} {acc:List api_Span} (hi:i<P):PL7 F s p1 y m N x y1 y2 y3 (P:Int) (n+1) l acc (i:Int)=(A8 F (mosaic_reader.mk l)).bind fun y4645 =>
  exc y4645 (fun e4647=>bif isI 204 e4647.1 then (some (.error 7)) else none) fun y4646 =>
  (A8 F (mosaic_reader.mk y4646.2.left)).bind fun y4661 =>
  exc y4661 (fun e4663=>bif isI 204 e4663.1 then (some (.error 7)) else none) fun y4662 =>
  (ck (y4646.1+y4662.1)).bind fun x4676 =>
  (apd 16 acc ([(api_Span.mk y4646.1 x4676)])).bind fun l4678 =>
  (ck ((i:Int)+1)).bind fun x4681=>PL7 F s p1 y m N x y1 y2 y3 (P:Int) n y4662.2.left l4678 x4681:=by
 unfold PL7;rw [Do];unfold Fj;rw [Bn (dT (by omega))]
theorem A39 {F:Nat} {s:mosaic_Spec} {p1:List Int} {y:Int×mosaic_reader} {m:Nat} {N:mosaic_Node} {x:Int} {y1:List Int×mosaic_reader} {y2 y3:Int×mosaic_reader} {P:Nat} (hF:2000≤F) (hP:P≤1000) :
  ∀(k n i:Nat) (l:List Int) (acc:List api_Span),i+k=P→k<n→Byt l→acc.length=i →
  (∃l' v,PL7 F s p1 y m N x y1 y2 y3 (P:Int) n l acc (i:Int)=PK6 F s p1 y m N x y1 y2 y3 l' v∧v.length=P∧(∀y∈l',y∈l)∧l'.length≤l.length) ∨
  PL7 F s p1 y m N x y1 y2 y3 (P:Int) n l acc (i:Int)=some (.error 7):=by
 intro k
 induction k with
 | zero =>
  intro n i l acc hi hn hb ha;obtain ⟨n,rfl⟩:∃m,n=m+1:=⟨n-1,by omega⟩;obtain rfl:i=P:=by omega
  left;exact ⟨l,acc,Xv,by omega,fun y hy=>hy,Nat.le_refl _⟩
 | succ k ih =>
  intro n i l acc hi hn hb ha;obtain ⟨n,rfl⟩:∃m,n=m+1:=⟨n-1,by omega⟩;rw [V7 (by omega)];rcases Xd (F:=F) (by omega) hb with ⟨a,l1,a1,a3,a4,a5,a6⟩|⟨a,a1⟩
  ·rw [a1,sbd,Ew];rcases Xd (F:=F) (l:=l1) (by omega) (fun q hq=>hb q (a6 q hq)) with ⟨c,l2,c1,c3,c4,c5,c6⟩|⟨c,c1⟩
   ·rw [show (⟨(a,(⟨l1⟩:mosaic_reader)).2.left⟩:mosaic_reader)=⟨l1⟩ from rfl,c1,sbd,Ew,ckb (by show _≤a+c∧a+c≤_;omega),Kd (by simp;omega) (by decide),ckb (by omega)];rcases ih n (i+1) l2 (acc++[⟨a,a+c⟩]) (by omega) (by omega) (fun q hq=>hb q (a6 q (c6 q hq))) (by simp;omega) with ⟨l',v,q1,q3,q4,q5⟩|q1
    ·left;exact ⟨l',v,q1,q3,fun q hq=>a6 q (c6 q (q4 q hq)),by omega⟩
    ·exact .inr q1
   ·right;rw [show (⟨(a,(⟨l1⟩:mosaic_reader)).2.left⟩:mosaic_reader)=⟨l1⟩ from rfl,c1,sbd,Mi];rfl
  ·right;rw [a1,sbd,Mi];rfl
theorem A5f {F:Nat} {s:mosaic_Spec} {p1 r:List Int} {y:Int×mosaic_reader} {m:Nat} {N:mosaic_Node} {x:Int} {y1:List Int×mosaic_reader} {y2 y3:Int×mosaic_reader} {P:Nat} (hF:2000≤F) (hP:P≤1000) :
  ∀(vs:List api_Span) (n i:Nat) (acc:List api_Span),i+vs.length=P→vs.length<n→acc.length=i→(∀v∈vs,0≤v.Lo∧v.Lo≤v.Hi∧v.Hi≤1000000) →
  PL7 F s p1 y m N x y1 y2 y3 (P:Int) n (vs.flatMap Mn++r) acc (i:Int)=PK6 F s p1 y m N x y1 y2 y3 r (acc++vs):=by
 intro vs
 induction vs with
 | nil =>
  intro n i acc hi hn ha hv;obtain ⟨n,rfl⟩:∃m,n=m+1:=⟨n-1,by omega⟩;obtain rfl:i=P:=by simpa using hi
  rw [List.flatMap_nil,List.nil_append,List.append_nil,Xv]
 | cons v vs ih =>
  intro n i acc hi hn ha hv;obtain ⟨n,rfl⟩:∃m,n=m+1:=⟨n-1,by omega⟩;rw [List.length_cons] at hi hn;obtain ⟨v1,v2,v3⟩:=hv v (.head _);have e:(v::vs).flatMap Mn++r=nmB v.Lo++(nmB (v.Hi-v.Lo)++(vs.flatMap Mn++r)):=by
   rw [List.flatMap_cons];unfold Mn;simp only [List.append_assoc]
  rw [V7 (by omega),e,Sx (by omega) v1 (by omega),sbd,Ew];rw [show (⟨(v.Lo,(⟨nmB (v.Hi-v.Lo)++(vs.flatMap Mn++r)⟩:mosaic_reader)).2.left⟩:mosaic_reader)=⟨nmB (v.Hi-v.Lo)++(vs.flatMap Mn++r)⟩ from rfl,Sx (by omega) (by omega) (by omega),sbd,Ew,ckb (by show _≤v.Lo+(v.Hi-v.Lo)∧v.Lo+(v.Hi-v.Lo)≤_;omega),Kd (by simp;omega) (by decide),ckb (by omega)];have ev:(⟨v.Lo,v.Lo+(v.Hi-v.Lo)⟩:api_Span)=v:=by
   rw [show v.Lo+(v.Hi-v.Lo)=v.Hi by omega]
  have:=ih n (i+1) (acc++[v]) (by omega) (by omega) (by simp;omega) (fun q hq=>hv q (.tail _ hq));rw [List.append_assoc,List.singleton_append] at this;refine Eq.trans ?_ this;show PL7 F s p1 y m N x y1 y2 y3 (P:Int) n _ (acc++[⟨v.Lo,v.Lo+(v.Hi-v.Lo)⟩]) _=_;rw [ev];rfl
theorem V6 {F:Nat} {s:mosaic_Spec} {p1:List Int} {y:Int×mosaic_reader} {n i:Nat} {N:mosaic_Node} {l:List Int} (h:GS F s) (hci:(i:Int)<y.1):PL4 F s p1 y (n+1) N l (i:Int)=(A8 F (mosaic_reader.mk l)).bind fun y4327 =>
  exc y4327 (fun e4329=>bif isI 204 e4329.1 then (some (.error 7)) else none) fun y4328 =>
  (Ao F (mosaic_reader.mk y4328.2.left) y4328.1).bind fun y4342 =>
  exc y4342 (fun e4344=>bif isI 204 e4344.1 then (some (.error 7)) else none) fun y4343 =>
  (A8 F (mosaic_reader.mk y4343.2.left)).bind fun y4361 =>
  exc y4361 (fun e4363=>bif isI 204 e4363.1 then (some (.error 7)) else none) fun y4362 =>
  (A8 F (mosaic_reader.mk y4362.2.left)).bind fun y4376 =>
  exc y4376 (fun e4378=>bif isI 204 e4378.1 then (some (.error 7)) else none) fun y4377 =>
  PL7 F s p1 y n N (i:Int) y4343 y4362 y4377 ((pix s:Nat):Int) F y4377.2.left [] ((0:Nat):Int):=by
 have hg:=Xg h;have:=h.small;unfold PL4;rw [Ch];unfold Fi;rw [Bn (dT hci),hg.1,ckS (x:=((pix s:Nat):Int)) (by omega)];rfl
theorem Xu {F:Nat} {s:mosaic_Spec} {p1:List Int} {y:Int×mosaic_reader} {n i:Nat} {N:mosaic_Node} {l:List Int} (hci:¬(i:Int)<y.1):PL4 F s p1 y (n+1) N l (i:Int)=(As F N).bind fun y2399=>(Cr F y2399 p1).bind fun y2406=>bif (!y2406) then (some (.error 7)) else (some (.ok (N,0))):=by
 unfold PL4;rw [Ch];unfold Fi;rw [B2 (dF hci)];rfl
theorem A54 {F:Nat} {s:mosaic_Spec} {p1:List Int} {y:Int×mosaic_reader} (hF:300000≤F) (h:GS F s) (hnm:∀m,okM s m→m.Key.Name.size≤30) (hP:pix s≤36) (hc:y.1≤256) :
  ∀(n i:Nat) (N:mosaic_Node) (l:List Int),SN F s N→tot N.kept=i→i≤256→Byt l→(0≤N.horizon∧N.horizon≤4294967296)→l.length<n →
  PL4 F s p1 y n N l (i:Int)=some (.error 7) ∨
  (∃N',PL4 F s p1 y n N l (i:Int)=some (.ok (N',0))∧p1=Bu N'++chB (chF 1 (Bu N'))):=by
 intro n
 induction n with
 | zero=>intro i N l _ _ _ _ _ hn;omega
 | succ n ih =>
  intro i N l hN ht hi9 hl hh hn
  by_cases hci:(i:Int)<y.1
  ·rw [V6 h hci];rcases Xd (F:=F) (by omega) hl with ⟨a,l1,a1,a3,a4,a5,a6⟩|⟨a,a1⟩
   ·rw [a1,sbd,Ew];have hb1:Byt l1:=fun q hq=>hl q (a6 q hq);rcases A1j (F:=F) (l:=l1) a3 with ⟨k,k1,k2,k3⟩|k3
    ·rw [show Ao F (⟨(a,(⟨l1⟩:mosaic_reader)).2.left⟩:mosaic_reader) (a,(⟨l1⟩:mosaic_reader)).1=_ from k3,sbd,Ew];have hd:=List.length_drop (i:=k) (l:=l1);rcases Xd (F:=F) (l:=l1.drop k) (by omega) (hb1.drop k) with ⟨c,l2,c1,c3,c4,c5,c6⟩|⟨c,c1⟩
     ·rw [show A8 F (⟨(l1.take k,(⟨l1.drop k⟩:mosaic_reader)).2.left⟩:mosaic_reader)=_ from c1,sbd,Ew];have hb2:Byt l2:=fun q hq=>hb1.drop k q (c6 q hq);rcases Xd (F:=F) (l:=l2) (by omega) hb2 with ⟨d,l3,d1,d3,d4,d5,d6⟩|⟨d,d1⟩
      ·rw [show A8 F (⟨(c,(⟨l2⟩:mosaic_reader)).2.left⟩:mosaic_reader)=_ from d1,sbd,Ew];have hb3:Byt l3:=fun q hq=>hb2 q (d6 q hq);rw [show (d,(⟨l3⟩:mosaic_reader)).2.left=l3 from rfl];rcases A39 (F:=F) (s:=s) (p1:=p1) (y:=y) (m:=n) (N:=N) (x:=(i:Int)) (y1:=(l1.take k,⟨l1.drop k⟩)) (y2:=(c,⟨l2⟩)) (y3:=(d,⟨l3⟩)) (P:=pix s) (by omega) (by omega) (pix s) F 0 l3 [] (by omega) (by omega) hb3 rfl with ⟨l',v,q1,q3,q4,q5⟩|q1
       ·rw [q1];rcases A4t (F:=F) (m:=⟨⟨bst (l1.take k),c,d⟩,v⟩) (by omega) h hN (by omega) q3 with ⟨b,e,N',o1,o2⟩|⟨q,o1,o2⟩
        ·left;exact Zi o1 o2
        ·rw [Zj (i:=i) (by omega) o1];have:=Pl hN o2;exact ih (i+1) _ l' o2 (by omega) (by omega) (fun q hq=>hb3 q (q4 q hq)) hh (by omega)
       ·exact .inl q1
      ·left;rw [show A8 F (⟨(c,(⟨l2⟩:mosaic_reader)).2.left⟩:mosaic_reader)=_ from d1,sbd,Mi];rfl
     ·left;rw [show A8 F (⟨(l1.take k,(⟨l1.drop k⟩:mosaic_reader)).2.left⟩:mosaic_reader)=_ from c1,sbd,Mi];rfl
    ·left;rw [show Ao F (⟨(a,(⟨l1⟩:mosaic_reader)).2.left⟩:mosaic_reader) (a,(⟨l1⟩:mosaic_reader)).1=_ from k3,sbd,Mi];rfl
   ·left;rw [a1,sbd,Mi];rfl
  ·have hm:tot N.kept*(70+20*pix s)≤256*790:=Nat.mul_le_mul (by omega) (by omega);have hs1:=A1d (F:=F) h hN hnm (by omega) (by omega) (by omega) hh;have hl1:=Mv hN hnm;have hck:(chB (chF 1 (Bu N))).length=4:=rfl;rw [Xu hci,hs1,sbd,V4 (by rw [List.length_append];omega) (by rw [List.length_append];omega),sbd]
   by_cases hB:Bu N++chB (chF 1 (Bu N))=p1
   ·right;rw [dT hB,B2 (c:=!true) rfl];exact ⟨N,rfl,hB.symm⟩
   ·left;rw [dF hB,Bn (c:=!false) rfl]
theorem A55 {F:Nat} {s:mosaic_Spec} {p1 r:List Int} {y:Int×mosaic_reader} (hF:2000≤F) (h:GS F s) (hnm:∀m,okM s m→m.Key.Name.size≤30) (hc:y.1≤200) :
  ∀(M:List mosaic_Message) (n i:Nat) (N:mosaic_Node),SN F s N→tot N.kept=i→((i+M.length:Nat):Int)=y.1→M.Nodup→(∀m∈M,okM s m∧¬has N m∧N.horizon≤m.Key.Time) →
  ∃N',PL4 F s p1 y (n+1+M.length) N (M.flatMap Jr++r) (i:Int)=PL4 F s p1 y (n+1) N' r ((i+M.length:Nat):Int)∧SN F s N'∧tot N'.kept=i+M.length∧N'.horizon=N.horizon∧∀x,has N' x↔has N x∨x∈M:=by
 have hsm:=h.small;intro M
 induction M with
 | nil =>
  intro n i N hN ht hi hnd hm;exact ⟨N,rfl,hN,ht,rfl,fun x=>⟨.inl,fun e=>e.elim id fun e=>by cases e⟩⟩
 | cons m M ih =>
  intro n i N hN ht hi hnd hm;rw [List.length_cons] at hi;obtain ⟨m1,m2,m3⟩:=hm m (.head _);have hnd':=List.nodup_cons.1 hnd;have hk:=m1.key;have hk1:=hk.2.1;have hk2:=hk.2.2;have hsz:=hnm m m1;have hs:=R0 m.Key.Name;obtain ⟨q,o1,o2⟩:=Sv (by omega) h hN (by omega) m1 m3 m2;have tk:∀R:List Int,Ao F ⟨sby m.Key.Name++R⟩ ((m.Key.Name.size:Nat):Int)=some (.ok (sby m.Key.Name,⟨R⟩)):=by
   intro R;rw [←hs];exact A16
  have e:(m::M).flatMap Jr++r=nmB ((m.Key.Name.size:Nat):Int)++(sby m.Key.Name++(nmB m.Key.Tilt++(nmB m.Key.Time++(m.Vals.flatMap Mn++(M.flatMap Jr++r))))):=by
   rw [List.flatMap_cons];unfold Jr A2d;simp only [List.append_assoc]
  have hst:PL4 F s p1 y (n+1+(m::M).length) N ((m::M).flatMap Jr++r) (i:Int)=PL4 F s p1 y (n+1+M.length) (J4 N m q) (M.flatMap Jr++r) ((i+1:Nat):Int):=by
   rw [List.length_cons,show n+1+(M.length+1)=(n+1+M.length)+1 by omega,V6 h (by omega),e,Sx (by omega) (by omega) (by omega),sbd,Ew];rw [show Ao F (⟨(((m.Key.Name.size:Nat):Int),(⟨sby m.Key.Name++(nmB m.Key.Tilt++(nmB m.Key.Time++(m.Vals.flatMap Mn++(M.flatMap Jr++r))))⟩:mosaic_reader)).2.left⟩:mosaic_reader) (((m.Key.Name.size:Nat):Int),(⟨sby m.Key.Name++(nmB m.Key.Tilt++(nmB m.Key.Time++(m.Vals.flatMap Mn++(M.flatMap Jr++r))))⟩:mosaic_reader)).1=_ from tk _,sbd,Ew];rw [show A8 F (⟨(sby m.Key.Name,(⟨nmB m.Key.Tilt++(nmB m.Key.Time++(m.Vals.flatMap Mn++(M.flatMap Jr++r)))⟩:mosaic_reader)).2.left⟩:mosaic_reader)=_ from Sx (by omega) hk.2.1.1 (by omega),sbd,Ew];rw [show A8 F (⟨(m.Key.Tilt,(⟨nmB m.Key.Time++(m.Vals.flatMap Mn++(M.flatMap Jr++r))⟩:mosaic_reader)).2.left⟩:mosaic_reader)=_ from Sx (by omega) hk.2.2.1 (by omega),sbd,Ew];rw [show (m.Key.Time,(⟨m.Vals.flatMap Mn++(M.flatMap Jr++r)⟩:mosaic_reader)).2.left=m.Vals.flatMap Mn++(M.flatMap Jr++r) from rfl];rw [A5f (by omega) (by omega) m.Vals F 0 [] (by rw [m1.len];omega) (by rw [m1.len];omega) rfl m1.vals,List.nil_append];refine Zj (i:=i) (by omega) ?_;show Ax F N ⟨⟨bst (sby m.Key.Name),m.Key.Tilt,m.Key.Time⟩,m.Vals⟩=_;rw [A1x];exact o1
  have ht2:=Pl hN o2;obtain ⟨N',q1,q2,q3,q4,q5⟩:=ih n (i+1) (J4 N m q) o2 (by omega) (by omega) hnd'.2 (fun x hx=>⟨(hm x (.tail _ hx)).1,fun e=>by
   rcases Gs.1 e with e|e
   ·exact hnd'.1 (e▸hx)
   ·exact (hm x (.tail _ hx)).2.1 e,(hm x (.tail _ hx)).2.2⟩)
  refine ⟨N',?_,q2,by rw [List.length_cons];omega,q4,fun x=>?_⟩
  ·rw [hst,q1,List.length_cons,show i+1+M.length=i+(M.length+1) by omega]
  ·rw [q5,Gs,List.mem_cons];constructor
   ·rintro ((e|e)|e)
    ·exact .inr (.inl e)
    ·exact .inl e
    ·exact .inr (.inr e)
   ·rintro (e|e|e)
    ·exact .inl (.inr e)
    ·exact .inl (.inl e)
    ·exact .inr e
end Go.Proofs.YtkbjbnkkfifbmaaGreat
namespace Go.Proofs.YtkbjbnkkfifbmaaGreat
open Go Go.RowKit Go.Eng
set_option maxRecDepth 10000
set_option linter.unusedVariables false
set_option linter.unusedSimpArgs false
def hzN (s:mosaic_Spec) (h:Int):mosaic_Node:=⟨s,radM s,h,[],0,[]⟩
theorem Ui {F:Nat} {s:mosaic_Spec} {h:Int}:SN F s (hzN s h):=by
 refine ⟨⟨rfl,rfl,.nil,?_,rfl,?_⟩,fun k=>.nil,fun k v hv=>by cases hv⟩
 ·intro p hp;cases hp
 ·intro w l h;cases h
theorem Y7 {B:List (mosaic_Key×List (List api_Span))} (hB:∀k,Srt (kl B k)):∀{L:List mosaic_Key},L.Nodup→(L.flatMap fun k=>(kl B k).map (mosaic_Message.mk k)).Nodup
 | [],_=>.nil
 | k::L,h=>by
  have h':=List.nodup_cons.1 h;rw [List.flatMap_cons];refine List.nodup_append.2 ⟨?_,Y7 hB h'.2,fun x hx y hy e=>?_⟩
  ·refine List.pairwise_map.2 ((hB k).imp fun {a b} h e=>?_);injection e with _ e;rw [e,Nh] at h;omega
  ·obtain ⟨v,_,rfl⟩:=List.mem_map.1 hx;obtain ⟨k',hk',hy⟩:=List.mem_flatMap.1 hy;obtain ⟨v',_,rfl⟩:=List.mem_map.1 hy;injection e with e _;exact h'.1 (e▸hk')
theorem Uo {F:Nat} {s:mosaic_Spec} {N:mosaic_Node} (h:SN F s N):(Ku N).Nodup:=Y7 h.so (Vt h.ni)
theorem Same.body {F:Nat} {s:mosaic_Spec} {N N':mosaic_Node} (h:Same F s N N'):Bu N=Bu N':=by
 unfold Bu;rw [h.hz,h.cnt,h.ms]
theorem A5r:sEq (bst [82,68,77,49]) (⟨#[82,68,77,49]⟩:ByteArray)=true:=by decide
theorem A2t {F:Nat} {s:mosaic_Spec} {A:mosaic_Node} (hF:300000≤F) (h:RG F s) (hnm:∀m,okM s m→m.Key.Name.size≤30) (hpx:pix s≤36) (hA:SN F s A) (ht:tot A.kept≤100) (hh:0≤A.horizon∧A.horizon≤4294967296) (hhz:∀m,has A m→A.horizon≤m.Key.Time) :
  ∃C,Ck F s (Bu A++chB (chF 1 (Bu A)))=some (.ok (C,0))∧Same F s A C:=by
 have hs:=h.gs;have hc:=hA.ni.count;have hm:=Kv hA.ni;generalize hp1:Bu A++chB (chF 1 (Bu A))=p1;have e1:p1=[82,68,77,49]++(nmB A.horizon++(nmB A.count++((Ku A).flatMap Jr++chB (chF 1 (Bu A))))):=by
  rw [←hp1];have:Bu A=[82,68,77,49]++nmB A.horizon++nmB A.count++(Ku A).flatMap Jr:=rfl;generalize chB (chF 1 (Bu A))=z;rw [this];simp only [List.append_assoc]
 obtain ⟨n,hn⟩:∃n,F=n+1+(Ku A).length:=⟨F-1-(Ku A).length,by omega⟩;generalize hy:(⟨(Ku A).flatMap Jr++chB (chF 1 (Bu A))⟩:mosaic_reader)=rd at *;obtain ⟨C,q1,q2,q3,q4,q5⟩:=A55 (F:=F) (p1:=p1) (r:=chB (chF 1 (Bu A))) (y:=(A.count,rd)) (by omega) hs hnm (by show A.count≤200;omega) (Ku A) n 0 (hzN s A.horizon) Ui rfl (by show _=A.count;omega) (Uo hA) (fun m hm=>⟨hA.okm (msgs_has.1 hm),fun e=>(by cases e),hhz m (msgs_has.1 hm)⟩)
 have hsame:Same F s A C:=⟨hA,q2,q4.symm,fun x=>by rw [q5,msgs_has];exact ⟨.inr,fun e=>e.elim (fun e=>(by cases e)) id⟩⟩
 refine ⟨C,?_,hsame⟩;have hb:=hsame.body;have hP:tot C.kept*(70+20*pix s)≤100*790:=Nat.mul_le_mul (by omega) (by omega);have hs1:=A1d (F:=F) hs q2 hnm (by omega) (by omega) (by omega) (by rw [q4];exact hh);rw [←hb,hp1] at hs1;have hl:=Mv hA hnm;have hP2:tot A.kept*(70+20*pix s)≤100*790:=Nat.mul_le_mul (by omega) (by omega);have hlen:p1.length=(Bu A).length+4:=by rw [←hp1,List.length_append];rfl
 have key:PL4 F s p1 (A.count,rd) F (hzN s A.horizon) ((Ku A).flatMap Jr++chB (chF 1 (Bu A))) ((0:Nat):Int)=some (.ok (C,0)):=by
  have q1':PL4 F s p1 (A.count,rd) F (hzN s A.horizon) ((Ku A).flatMap Jr++chB (chF 1 (Bu A))) ((0:Nat):Int)=PL4 F s p1 (A.count,rd) (n+1) C (chB (chF 1 (Bu A))) ((0+(Ku A).length:Nat):Int):=by
   have:=q1;rw [←hn] at this;exact this
  rw [q1',Xu (by show ¬_<A.count;omega),hs1,sbd,V4 (by omega) (by omega),sbd,dT rfl,B2 (c:=!true) rfl]
 unfold Ck;rw [Wr (by omega) h,sbd,Ew,B2 (c:=((Q1 s,(0:Int)).2) != 0) rfl];have t1:Ao F ⟨p1⟩ 4=some (.ok ([82,68,77,49],⟨nmB A.horizon++(nmB A.count++((Ku A).flatMap Jr++chB (chF 1 (Bu A))))⟩)):=by
  rw [e1];exact A16
 rw [t1,sbd,Ew,A5r,B2 (c:=!true) rfl];unfold Fk;rw [show A8 F (⟨(([82,68,77,49]:List Int),(⟨nmB A.horizon++(nmB A.count++((Ku A).flatMap Jr++chB (chF 1 (Bu A))))⟩:mosaic_reader)).2.left⟩:mosaic_reader)=_ from Sx (by omega) hh.1 (by omega),sbd,Ew];rw [show A8 F (⟨(A.horizon,(⟨nmB A.count++((Ku A).flatMap Jr++chB (chF 1 (Bu A)))⟩:mosaic_reader)).2.left⟩:mosaic_reader)=_ from Sx (by omega) (by omega) (by omega),sbd,Ew];rw [B2 (by
  show (bif decide (A.horizon>4294967296) then true else decide (A.count>256))=false;rw [dF (by omega),dF (by omega)];rfl)]
 rw [hy];unfold Hg;subst hy;exact key
theorem A17 {F:Nat} {s:mosaic_Spec} {p1:List Int} (hF:300000≤F) (h:RG F s) (hnm:∀m,okM s m→m.Key.Name.size≤30) (hpx:pix s≤36) (hb:Byt p1) (hl:p1.length<F) :
  Ck F s p1=some (.error 7)∨∃N,Ck F s p1=some (.ok (N,0))∧p1=Bu N++chB (chF 1 (Bu N)):=by
 have hs:=h.gs;unfold Ck;rw [Wr (by omega) h,sbd,Ew,B2 (c:=((Q1 s,(0:Int)).2) != 0) rfl];rcases A1j (F:=F) (l:=p1) (n:=4) (by decide) with ⟨k,k1,k2,k3⟩|k3
 ·obtain rfl:k=4:=by omega
  rw [k3,sbd,Ew]
  cases hq:sEq (bst (p1.take 4)) (⟨#[82,68,77,49]⟩:ByteArray) with
  | false =>
   left;rw [Bn (c:=!false) rfl]
  | true =>
   rw [B2 (c:=!true) rfl];unfold Fk;have hd:=List.length_drop (i:=4) (l:=p1);rcases Xd (F:=F) (l:=p1.drop 4) (by omega) (hb.drop 4) with ⟨z,l1,a1,a3,a4,a5,a6⟩|⟨a,a1⟩
   ·rw [show A8 F (⟨(p1.take 4,(⟨p1.drop 4⟩:mosaic_reader)).2.left⟩:mosaic_reader)=_ from a1,sbd,Ew];have hb1:Byt l1:=fun q hq=>hb.drop 4 q (a6 q hq);rcases Xd (F:=F) (l:=l1) (by omega) hb1 with ⟨c,l2,d1,d3,d4,d5,d6⟩|⟨c,d1⟩
    ·rw [show A8 F (⟨(z,(⟨l1⟩:mosaic_reader)).2.left⟩:mosaic_reader)=_ from d1,sbd,Ew];dsimp only
     cases hx:(bif (decide (z>4294967296)) then true else (decide (c>256))) with
     | true =>
      left;rw [cond_true]
     | false =>
      rw [cond_false];have hh1:z≤4294967296:=by
       rcases Int.lt_or_le 4294967296 z with q|q
       ·rw [dT (show z>4294967296 from q)] at hx;cases hx
       ·exact q
      have hc1:c≤256:=by
       rw [dF (show ¬z>4294967296 by omega),cond_false] at hx;have:=of_decide_eq_false hx;omega
      have key:=A54 (F:=F) (s:=s) (p1:=p1) (y:=(c,⟨l2⟩)) hF hs hnm hpx hc1 F 0 (hzN s z) l2 Ui rfl (by omega) (fun q hq=>hb1 q (d6 q hq)) ⟨a3,hh1⟩ (by omega);exact key
    ·left;rw [show A8 F (⟨(z,(⟨l1⟩:mosaic_reader)).2.left⟩:mosaic_reader)=_ from d1,sbd,Mi];rfl
   ·left;rw [show A8 F (⟨(p1.take 4,(⟨p1.drop 4⟩:mosaic_reader)).2.left⟩:mosaic_reader)=_ from a1,sbd,Mi];rfl
 ·left;rw [k3,sbd,Mi];rfl
theorem A56 {X Y:List Int} {k:Nat} {b:Int} (hY:Byt Y) (hb:0≤b∧b≤255) (hk:k<(Y++chB (chF 1 Y)).length) (hne:(Y++chB (chF 1 Y))[k]≠b):(Y++chB (chF 1 Y)).set k b≠X++chB (chF 1 X):=by
 intro h;have hl:=congrArg List.length h;have c1:(chB (chF 1 Y)).length=4:=rfl;have c2:(chB (chF 1 X)).length=4:=rfl;rw [List.length_set,List.length_append,List.length_append,c1,c2] at hl;have h1:0≤(1:Int)∧(1:Int)<4294967296:=by decide
 by_cases hc:k<Y.length
 ·rw [List.set_append_left _ _ hc] at h;obtain ⟨e1,e2⟩:=List.append_inj h (by rw [List.length_set];omega);have:=A1z (Ub h1) (Ub h1) e2;rw [←e1] at this;rw [List.getElem_append_left hc] at hne;exact Xz hY hb h1 hc hne this.symm
 ·rw [List.set_append_right _ _ (by omega)] at h;obtain ⟨e1,e2⟩:=List.append_inj h (by omega);subst e1;rw [List.length_append] at hk;rw [List.getElem_append_right (by omega)] at hne;have hj:k-Y.length<(chB (chF 1 Y)).length:=by omega
  have h3:((chB (chF 1 Y)).set (k-Y.length) b)[k-Y.length]? = (chB (chF 1 Y))[k-Y.length]?:=by rw [e2]
  rw [List.getElem?_set_self hj,List.getElem?_eq_getElem hj] at h3;exact hne (Option.some.inj h3).symm
theorem A2s {F:Nat} {s:mosaic_Spec} {A:mosaic_Node} {k:Nat} {b:Int} (hF:300000≤F) (h:RG F s) (hnm:∀m,okM s m→m.Key.Name.size≤30) (hpx:pix s≤36) (hA:SN F s A) (ht:tot A.kept≤100) (hb:0≤b∧b≤255) (hk:k<(Bu A++chB (chF 1 (Bu A))).length) (hne:(Bu A++chB (chF 1 (Bu A)))[k]≠b) :
  Ck F s ((Bu A++chB (chF 1 (Bu A))).set k b)=some (.error 7):=by
 have hl:=Mv hA hnm;have hP2:tot A.kept*(70+20*pix s)≤100*790:=Nat.mul_le_mul (by omega) (by omega);have hlen:(Bu A++chB (chF 1 (Bu A))).length=(Bu A).length+4:=by rw [List.length_append];rfl
 have hby:Byt ((Bu A++chB (chF 1 (Bu A))).set k b):=by
  intro x hx;rcases List.mem_or_eq_of_mem_set hx with e|e
  ·exact ((P9 A).app (Xy _)) x e
  ·rw [e];exact hb
 rcases A17 (F:=F) (s:=s) hF h hnm hpx hby (by rw [List.length_set];omega) with e|⟨N,_,e⟩
 ·exact e
 ·exact absurd e (A56 (P9 A) hb hk hne)
theorem Vq:∀(l:List mosaic_Key) (B:List (mosaic_Key×Bool)) (k:mosaic_Key),(lkM (l.foldl (fun B k=>upM B k true) B) k).getD false=((lkM B k).getD false||decide (k∈l))
 | [],B,k=>by rw [List.foldl_nil,dF (fun h=>by cases h),Bool.or_false]
 | x::l,B,k=>by
  rw [List.foldl_cons,Vq l,Qr]
  by_cases e:k=x
  ·rw [if_pos e,dT (show k∈x::l by rw [e];exact .head _)]
   cases decide (k∈l)<;>cases (lkM B k).getD false<;>rfl
  ·rw [if_neg e];have:decide (k∈x::l)=decide (k∈l):=decide_eq_decide.2 ⟨fun h=>(List.mem_cons.1 h).elim (fun h=>absurd h e) id,.tail _⟩;rw [this]
def Uni (N:mosaic_Node):Prop:=∀a b,has N a→has N b→a.Key=b.Key→a=b
theorem Uni.one {F:Nat} {s:mosaic_Spec} {N:mosaic_Node} (h:SN F s N) (u:Uni N) {m:mosaic_Message} (hm:has N m):(kl N.kept m.Key).length=1:=by
 have hs:=h.so m.Key;unfold has at hm
 cases e:kl N.kept m.Key with
 | nil=>rw [e] at hm;cases hm
 | cons x l =>
  cases l with
  | nil=>rfl
  | cons y l =>
   rw [e] at hs;have h1:has N ⟨m.Key,x⟩:=by unfold has;show x∈kl N.kept m.Key;rw [e];exact .head _
   have h2:has N ⟨m.Key,y⟩:=by unfold has;show y∈kl N.kept m.Key;rw [e];exact .tail _ (.head _)
   have:=u _ _ h1 h2 rfl;injection this with _ this;have:=(List.pairwise_cons.1 hs).1 y (.head _)
   subst_vars
   rw [Nh] at this;omega
theorem A0l {F:Nat} {s:mosaic_Spec} {N:mosaic_Node} (h:NI F s N) {k:mosaic_Key}:k∈ksN N↔∃m,has N m∧m.Key=k:=by
 rw [A0m h];constructor
 ·intro hk;obtain ⟨v,hv⟩:=List.exists_mem_of_ne_nil _ hk;exact ⟨⟨k,v⟩,hv,rfl⟩
 ·rintro ⟨m,hm,rfl⟩ e;unfold has at hm;rw [e] at hm;cases hm
theorem Su {F:Nat} {s:mosaic_Spec} {N O:mosaic_Node} (hF:2000≤F) (hs:GS F s) (h:SN F s N) (hO:SN F s O) (u:Uni N) (ht:tot N.kept≤200) (htO:tot O.kept≤200) :
  ∃l,Gh F N (ksN O)=some (l,0)∧l.Nodup∧l.length≤tot N.kept∧∀m,m∈l↔has N m∧∀x,has O x→x.Key≠m.Key:=by
 have h1:=Kv h.ni;have h2:=hO.ni.small;refine ⟨(Ku N).filter (Th N (Gr (ksN O))),?_,(Uo h).filter _,by rw [←h1];exact List.length_filter_le _ _,fun m=>?_⟩
 ·unfold Gh;rw [if_neg (by omega),S7 (by omega) hs h.ni (by omega),sbd,if_pos (by omega)]
 ·rw [List.mem_filter,msgs_has];refine and_congr_right fun hm=>?_;have e1:(((lkM N.kept m.Key).getD []).length:Int)=1:=by
   have:=u.one h hm;unfold kl at this;omega
  have e2:(lkM (Gr (ksN O)) m.Key).getD false=decide (m.Key∈ksN O):=by
   unfold Gr;rw [Vq];rfl
  unfold Th;rw [e1,e2,show (((1:Int))==1)=true from rfl,Bool.and_true,Bool.not_eq_true',decide_eq_false_iff_not,A0l hO.ni];exact ⟨fun h x hx e=>h ⟨x,hx,e⟩,fun h ⟨x,hx,e⟩=>h x hx e⟩
end Go.Proofs.YtkbjbnkkfifbmaaGreat
namespace Go.Proofs.YtkbjbnkkfifbmaaGreat
open Go Go.RowKit Go.Eng
set_option maxRecDepth 10000
set_option linter.unusedVariables false
set_option linter.unusedSimpArgs false
structure CY (F:Nat) (s:mosaic_Spec) (p1:List law11_Post) (p2 p3:List Int) (p4 p5:Int):Prop where
 hF:300000≤F
 h:RG F s
 px:pix s≤16
 nm:∀m,okM s m→m.Key.Name.size≤30
 ts:∀t∈p3,0≤t∧t≤65535
 tl:p3.length≤100
 w:law11_works F=some true
 l:∀p∈p1,okPost p
 len:p1.length≤20
 sd:∀y∈p2,0≤y∧y≤255
 a:0≤p4∧p4≤65535
 b:0≤p5∧p5≤255
structure SI (F:Nat) (s:mosaic_Spec) (A B:mosaic_Node) (MM:List mosaic_Message) (i:Nat):Prop where
 a:SN F s A
 b:SN F s B
 ah:A.horizon=0
 bh:B.horizon=0
 at_:tot A.kept≤i
 bt:tot B.kept≤i
 nd:(MM.map (·.Key)).Nodup
 am:∀x,has A x→x∈MM
 bm:∀x,has B x→x∈MM
 mm:∀x∈MM,(has A x∨has B x)∧okM s x
 ml:MM.length≤i
theorem Yd:∀{MM:List mosaic_Message},(MM.map (·.Key)).Nodup→∀a b,a∈MM→b∈MM→a.Key=b.Key→a=b
 | [],_,a,b,h,_,_=>by cases h
 | m::MM,hn,a,b,ha,hb,e=>by
  rw [List.map_cons] at hn;have hn':=List.nodup_cons.1 hn;rcases List.mem_cons.1 ha with e1|h1
  ·rcases List.mem_cons.1 hb with e2|h2
   ·rw [e1,e2]
   ·exact absurd (by rw [←e1,e];exact List.mem_map_of_mem (f:=(·.Key)) h2) hn'.1
  ·rcases List.mem_cons.1 hb with e2|h2
   ·exact absurd (by rw [←e2,←e];exact List.mem_map_of_mem (f:=(·.Key)) h1) hn'.1
   ·exact Yd hn'.2 a b h1 h2 e
section
variable {F:Nat} {s:mosaic_Spec} {p1:List law11_Post} {p2 p3:List Int} {p4 p5:Int}
theorem A2j {A B:mosaic_Node} {K:List mosaic_Key} {x:Int} {n':Nat} {m:mosaic_Message} (hK:K.length≤1000) :
  ∀(n j:Nat) (c:Bool),j≤K.length→K.length-j<n→De F p2 A.spec.Grid.X A.spec.Grid.Y A.horizon A.count A.spec.Grid.Size A.spec.Grid.Wide A.spec.Grid.High A.spec.Earth.Lo A.spec.Earth.Hi A.spec.Radars A.spec.Age B.spec.Grid.X B.spec.Grid.Y B.horizon B.count B.spec.Grid.Size B.spec.Grid.Wide B.spec.Grid.High B.spec.Earth.Lo B.spec.Earth.Hi B.spec.Radars B.spec.Age A.radars A.kept A.looks B.radars B.kept B.looks K x (Ba F p1 p2 p3 p4 p5 s n') m n c (j:Int)=Eu F p2 A.spec.Grid.X A.spec.Grid.Y A.horizon A.count A.spec.Grid.Size A.spec.Grid.Wide A.spec.Grid.High A.spec.Earth.Lo A.spec.Earth.Hi A.spec.Radars A.spec.Age B.spec.Grid.X B.spec.Grid.Y B.horizon B.count B.spec.Grid.Size B.spec.Grid.Wide B.spec.Grid.High B.spec.Earth.Lo B.spec.Earth.Hi B.spec.Radars B.spec.Age A.radars A.kept A.looks B.radars B.kept B.looks K x (Ba F p1 p2 p3 p4 p5 s n') m (c||decide (m.Key∈K.drop j)):=by
 intro n
 induction n with
 | zero=>intro j _ _ h;omega
 | succ n ih =>
  intro j c hj hn;rw [De];unfold Fg
  by_cases hc:j<K.length
  ·have hg:=List.getElem?_eq_getElem hc;have hd:=List.drop_eq_getElem_cons hc;rw [Bn (dT (by omega))]
   cases c with
   | true =>
    rw [gdF (g:=(true==false&&true)) rfl,sbd,ckb (by omega),Bn (c:=true) rfl];have:=ih (j+1) true hc (by omega);rw [Bool.true_or] at this ⊢;exact this
   | false =>
    rw [gdT (g:=(false==false&&true)) rfl,Dk j _ rfl hg,ckb (by omega),B2 (c:=false) rfl,A4c];refine (ih (j+1) _ hc (by omega)).trans ?_;rw [hd];have e:(decide (K[j]=m.Key)||decide (m.Key∈K.drop (j+1)))=(false||decide (m.Key∈K[j]::K.drop (j+1))):=by
     by_cases h1:K[j]=m.Key
     ·rw [dT h1,dT (show m.Key∈K[j]::K.drop (j+1) by rw [h1];exact .head _)];rfl
     ·rw [dF h1];refine congrArg (false||·) (decide_eq_decide.2 ⟨.tail _,fun h=>?_⟩);rcases List.mem_cons.1 h with e|e
      ·exact absurd e.symm h1
      ·exact e
    rw [e]
  ·rw [B2 (dF (by omega)),List.drop_eq_nil_of_le (by omega),dF (fun h=>by cases h),Bool.or_false]
theorem SI.mono {A B:mosaic_Node} {MM:List mosaic_Message} {i:Nat} (h:SI F s A B MM i):SI F s A B MM (i+1) :=
 ⟨h.a,h.b,h.ah,h.bh,by have:=h.at_;omega,by have:=h.bt;omega,h.nd,h.am,h.bm,h.mm,by have:=h.ml;omega⟩
theorem A1c {A B:mosaic_Node} {MM:List mosaic_Message} {K:List mosaic_Key} {i n:Nat} {m:mosaic_Message} {z:Int} (c:CY F s p1 p2 p3 p4 p5) (hi:i≤100) (h:SI F s A B MM i) (hm:okM s m) (hk:m.Key∉MM.map (·.Key)) (hz:z=0∨z=1∨z=2) :
  ∃A' B',Ct F A.spec.Grid.X A.spec.Grid.Y A.horizon A.count A.spec.Grid.Size A.spec.Grid.Wide A.spec.Grid.High A.spec.Earth.Lo A.spec.Earth.Hi A.spec.Radars A.spec.Age B.spec.Grid.X B.spec.Grid.Y B.horizon B.count B.spec.Grid.Size B.spec.Grid.Wide B.spec.Grid.High B.spec.Earth.Lo B.spec.Earth.Hi B.spec.Radars B.spec.Age A.radars A.kept A.looks B.radars B.kept B.looks (i:Int) (Ba F p1 p2 p3 p4 p5 s n) m K z=Ba F p1 p2 p3 p4 p5 s n A'.spec.Grid.X A'.spec.Grid.Y A'.horizon A'.count A'.spec.Grid.Size A'.spec.Grid.Wide A'.spec.Grid.High A'.spec.Earth.Lo A'.spec.Earth.Hi A'.spec.Radars A'.spec.Age B'.spec.Grid.X B'.spec.Grid.Y B'.horizon B'.count B'.spec.Grid.Size B'.spec.Grid.Wide B'.spec.Grid.High B'.spec.Earth.Lo B'.spec.Earth.Hi B'.spec.Radars B'.spec.Age A'.radars A'.kept A'.looks B'.radars B'.kept B'.looks K ((i+1:Nat):Int)∧SI F s A' B' (MM++[m]) (i+1):=by
 have hcF:=c.hF;have hnA:¬has A m:=fun e=>hk (List.mem_map_of_mem (f:=(·.Key)) (h.am m e));have hnB:¬has B m:=fun e=>hk (List.mem_map_of_mem (f:=(·.Key)) (h.bm m e));have ta:=h.at_;have tb:=h.bt;have hml:=h.ml;obtain ⟨q,o1,o2⟩:=Sv (by omega) c.h.gs h.a (by omega) hm (by rw [h.ah];exact hm.key.2.2.1) hnA;obtain ⟨r,u1,u2⟩:=Sv (by omega) c.h.gs h.b (by omega) hm (by rw [h.bh];exact hm.key.2.2.1) hnB;have t1:=Pl h.a o2;have t2:=Pl h.b u2;have hnd:((MM++[m]).map (·.Key)).Nodup:=by
  rw [List.map_append];refine List.nodup_append.2 ⟨h.nd,by simp,fun x hx y hy e=>hk ?_⟩;have hy:y=m.Key:=by simpa using hy
  rw [←hy,←e];exact hx
 have memA:∀x,has (J4 A m q) x→x∈MM++[m]:=fun x hx=>(Gs.1 hx).elim (fun e=>List.mem_append.2 (.inr (by rw [e];exact .head _))) (fun e=>List.mem_append.2 (.inl (h.am x e)));have memB:∀x,has (J4 B m r) x→x∈MM++[m]:=fun x hx=>(Gs.1 hx).elim (fun e=>List.mem_append.2 (.inr (by rw [e];exact .head _))) (fun e=>List.mem_append.2 (.inl (h.bm x e)));have oldA:∀x,has A x→x∈MM++[m]:=fun x hx=>List.mem_append.2 (.inl (h.am x hx));have oldB:∀x,has B x→x∈MM++[m]:=fun x hx=>List.mem_append.2 (.inl (h.bm x hx));have hlen:(MM++[m]).length≤i+1:=by simp;omega
 have k8:∀(A' B':mosaic_Node),Cc (i:Int) (Ba F p1 p2 p3 p4 p5 s n) A'.spec.Grid.X A'.spec.Grid.Y A'.horizon A'.count A'.spec.Grid.Size A'.spec.Grid.Wide A'.spec.Grid.High A'.spec.Earth.Lo A'.spec.Earth.Hi A'.spec.Radars A'.spec.Age B'.spec.Grid.X B'.spec.Grid.Y B'.horizon B'.count B'.spec.Grid.Size B'.spec.Grid.Wide B'.spec.Grid.High B'.spec.Earth.Lo B'.spec.Earth.Hi B'.spec.Radars B'.spec.Age A'.radars A'.kept A'.looks B'.radars B'.kept B'.looks K=Ba F p1 p2 p3 p4 p5 s n A'.spec.Grid.X A'.spec.Grid.Y A'.horizon A'.count A'.spec.Grid.Size A'.spec.Grid.Wide A'.spec.Grid.High A'.spec.Earth.Lo A'.spec.Earth.Hi A'.spec.Radars A'.spec.Age B'.spec.Grid.X B'.spec.Grid.Y B'.horizon B'.count B'.spec.Grid.Size B'.spec.Grid.Wide B'.spec.Grid.High B'.spec.Earth.Lo B'.spec.Earth.Hi B'.spec.Radars B'.spec.Age A'.radars A'.kept A'.looks B'.radars B'.kept B'.looks K ((i+1:Nat):Int):=by
  intro A' B';unfold Cc;rw [ckb (by omega)];rfl
 have eA:∀(o:mosaic_Node),(mosaic_Node.mk (mosaic_Spec.mk (api_Grid.mk o.spec.Grid.X o.spec.Grid.Y o.spec.Grid.Size o.spec.Grid.Wide o.spec.Grid.High) (api_Span.mk o.spec.Earth.Lo o.spec.Earth.Hi) o.spec.Radars o.spec.Age) o.radars o.horizon o.kept o.count o.looks)=o:=fun _=>rfl;unfold Ct;rcases hz with rfl|rfl|rfl
 ·rw [Bn (c:=(0:Int) != 1) rfl,eA,o1,sbd];unfold Cj;rw [B2 (c:=(0:Int) != 0) rfl];refine ⟨J4 A m q,B,k8 (J4 A m q) B,o2,h.b,h.ah,h.bh,by omega,by omega,hnd,memA,oldB,fun x hx=>?_,hlen⟩;rcases List.mem_append.1 hx with e|e
  ·exact ⟨(h.mm x e).1.elim (fun e=>.inl (Gs.2 (.inr e))) .inr,(h.mm x e).2⟩
  ·rw [List.mem_singleton.1 e];exact ⟨.inl (Gs.2 (.inl rfl)),hm⟩
 ·rw [B2 (c:=(1:Int) != 1) rfl];unfold Cj;rw [Bn (c:=(1:Int) != 0) rfl,eA,u1,sbd];refine ⟨A,J4 B m r,k8 A (J4 B m r),h.a,u2,h.ah,h.bh,by omega,by omega,hnd,oldA,memB,fun x hx=>?_,hlen⟩;rcases List.mem_append.1 hx with e|e
  ·exact ⟨(h.mm x e).1.elim .inl (fun e=>.inr (Gs.2 (.inr e))),(h.mm x e).2⟩
  ·rw [List.mem_singleton.1 e];exact ⟨.inr (Gs.2 (.inl rfl)),hm⟩
 ·rw [Bn (c:=(2:Int) != 1) rfl,eA,o1,sbd];unfold Cj;rw [Bn (c:=(2:Int) != 0) rfl,eA,u1,sbd];refine ⟨J4 A m q,J4 B m r,k8 (J4 A m q) (J4 B m r),o2,u2,h.ah,h.bh,by omega,by omega,hnd,memA,memB,fun x hx=>?_,hlen⟩;rcases List.mem_append.1 hx with e|e
  ·exact ⟨(h.mm x e).1.elim (fun e=>.inl (Gs.2 (.inr e))) (fun e=>.inr (Gs.2 (.inr e))),(h.mm x e).2⟩
  ·rw [List.mem_singleton.1 e];exact ⟨.inl (Gs.2 (.inl rfl)),hm⟩
theorem A5q {A:mosaic_Node} {K:List mosaic_Key} {x y:List mosaic_Message×Int} (c:CY F s p1 p2 p3 p4 p5) (hl:x.1.length≤100) (hx:x.1.Nodup) :
  ∀(n i:Nat) (B:mosaic_Node),i≤x.1.length→x.1.length-i<n→SN F s B→B.horizon=0→tot B.kept+(x.1.length-i)≤200→(∀m∈x.1.drop i,okM s m∧¬has B m) →
  ∃B',Cv F p3 p4 p5 s A.spec.Grid.X A.spec.Grid.Y A.horizon A.count A.spec.Grid.Size A.spec.Grid.Wide A.spec.Grid.High A.spec.Earth.Lo A.spec.Earth.Hi A.spec.Radars A.spec.Age A.radars A.kept A.looks K x y n B.spec.Grid.X B.spec.Grid.Y B.horizon B.count B.spec.Grid.Size B.spec.Grid.Wide B.spec.Grid.High B.spec.Earth.Lo B.spec.Earth.Hi B.spec.Radars B.spec.Age B.radars B.kept B.looks (i:Int)=Et F p3 p4 p5 s A.spec.Grid.X A.spec.Grid.Y A.horizon A.count A.spec.Grid.Size A.spec.Grid.Wide A.spec.Grid.High A.spec.Earth.Lo A.spec.Earth.Hi A.spec.Radars A.spec.Age A.radars A.kept A.looks K y B'.spec.Grid.X B'.spec.Grid.Y B'.horizon B'.count B'.spec.Grid.Size B'.spec.Grid.Wide B'.spec.Grid.High B'.spec.Earth.Lo B'.spec.Earth.Hi B'.spec.Radars B'.spec.Age B'.radars B'.kept B'.looks∧SN F s B'∧B'.horizon=0∧∀z,has B' z↔has B z∨z∈x.1.drop i:=by
 have hcF:=c.hF;intro n
 induction n with
 | zero=>intro i B _ h;omega
 | succ n ih =>
  intro i B hi hn hB hh ht hm;have eA:∀(o:mosaic_Node),(mosaic_Node.mk (mosaic_Spec.mk (api_Grid.mk o.spec.Grid.X o.spec.Grid.Y o.spec.Grid.Size o.spec.Grid.Wide o.spec.Grid.High) (api_Span.mk o.spec.Earth.Lo o.spec.Earth.Hi) o.spec.Radars o.spec.Age) o.radars o.horizon o.kept o.count o.looks)=o:=fun _=>rfl;rw [Cv];unfold Fx
  by_cases hc:i<x.1.length
  ·have hd:=List.drop_eq_getElem_cons hc;rw [hd] at hm;obtain ⟨m1,m2⟩:=hm _ (.head _);obtain ⟨q,o1,o2⟩:=Sv (by omega) c.h.gs hB (by omega) m1 (by rw [hh];exact m1.key.2.2.1) m2;have t1:=Pl hB o2;rw [Bn (dT (by omega)),Dk i _ rfl (List.getElem?_eq_getElem hc),eA,o1,sbd,B2 (c:=bif (!(true,(0:Int),J4 B x.1[i] q).1) then true else ((true,(0:Int),J4 B x.1[i] q).2.1 != 0)) rfl,ckb (by omega)];have hnd:x.1[i]∉x.1.drop (i+1):=by
    have:=hx.sublist (List.drop_sublist i x.1);rw [hd] at this;exact (List.nodup_cons.1 this).1
   obtain ⟨B',e1,e2,e3,e4⟩:=ih (i+1) (J4 B x.1[i] q) hc (by omega) o2 hh (by omega) (fun m hm2=>⟨(hm m (.tail _ hm2)).1,fun e=>(Gs.1 e).elim (fun e=>hnd (e▸hm2)) (hm m (.tail _ hm2)).2⟩);refine ⟨B',e1,e2,e3,fun z=>?_⟩;rw [e4,Gs,hd,List.mem_cons];constructor
   ·rintro ((h|h)|h)
    ·exact .inr (.inl h)
    ·exact .inl h
    ·exact .inr (.inr h)
   ·rintro (h|h|h)
    ·exact .inl (.inr h)
    ·exact .inl (.inl h)
    ·exact .inr h
  ·rw [B2 (dF (by omega)),List.drop_eq_nil_of_le (by omega)];exact ⟨B,rfl,hB,hh,fun z=>⟨.inl,fun e=>e.elim id fun e=>by cases e⟩⟩
theorem A5p {B:mosaic_Node} {K:List mosaic_Key} {y:List mosaic_Message×Int} (c:CY F s p1 p2 p3 p4 p5) (hl:y.1.length≤100) (hx:y.1.Nodup) :
  ∀(n i:Nat) (A:mosaic_Node),i≤y.1.length→y.1.length-i<n→SN F s A→A.horizon=0→tot A.kept+(y.1.length-i)≤200→(∀m∈y.1.drop i,okM s m∧¬has A m) →
  ∃A',Cu F p3 p4 p5 s K y B.spec.Grid.X B.spec.Grid.Y B.horizon B.count B.spec.Grid.Size B.spec.Grid.Wide B.spec.Grid.High B.spec.Earth.Lo B.spec.Earth.Hi B.spec.Radars B.spec.Age B.radars B.kept B.looks n A.spec.Grid.X A.spec.Grid.Y A.horizon A.count A.spec.Grid.Size A.spec.Grid.Wide A.spec.Grid.High A.spec.Earth.Lo A.spec.Earth.Hi A.spec.Radars A.spec.Age A.radars A.kept A.looks (i:Int)=Dp F p3 p4 p5 s K B.spec.Grid.X B.spec.Grid.Y B.horizon B.count B.spec.Grid.Size B.spec.Grid.Wide B.spec.Grid.High B.spec.Earth.Lo B.spec.Earth.Hi B.spec.Radars B.spec.Age B.radars B.kept B.looks A'.spec.Grid.X A'.spec.Grid.Y A'.horizon A'.count A'.spec.Grid.Size A'.spec.Grid.Wide A'.spec.Grid.High A'.spec.Earth.Lo A'.spec.Earth.Hi A'.spec.Radars A'.spec.Age A'.radars A'.kept A'.looks∧SN F s A'∧A'.horizon=0∧∀z,has A' z↔has A z∨z∈y.1.drop i:=by
 have hcF:=c.hF;intro n
 induction n with
 | zero=>intro i A _ h;omega
 | succ n ih =>
  intro i A hi hn hA hh ht hm;have eA:∀(o:mosaic_Node),(mosaic_Node.mk (mosaic_Spec.mk (api_Grid.mk o.spec.Grid.X o.spec.Grid.Y o.spec.Grid.Size o.spec.Grid.Wide o.spec.Grid.High) (api_Span.mk o.spec.Earth.Lo o.spec.Earth.Hi) o.spec.Radars o.spec.Age) o.radars o.horizon o.kept o.count o.looks)=o:=fun _=>rfl;rw [Cu];unfold Fw
  by_cases hc:i<y.1.length
  ·have hd:=List.drop_eq_getElem_cons hc;rw [hd] at hm;obtain ⟨m1,m2⟩:=hm _ (.head _);obtain ⟨q,o1,o2⟩:=Sv (by omega) c.h.gs hA (by omega) m1 (by rw [hh];exact m1.key.2.2.1) m2;have t1:=Pl hA o2;rw [Bn (dT (by omega)),Dk i _ rfl (List.getElem?_eq_getElem hc),eA,o1,sbd,B2 (c:=bif (!(true,(0:Int),J4 A y.1[i] q).1) then true else ((true,(0:Int),J4 A y.1[i] q).2.1 != 0)) rfl,ckb (by omega)];have hnd:y.1[i]∉y.1.drop (i+1):=by
    have:=hx.sublist (List.drop_sublist i y.1);rw [hd] at this;exact (List.nodup_cons.1 this).1
   obtain ⟨A',e1,e2,e3,e4⟩:=ih (i+1) (J4 A y.1[i] q) hc (by omega) o2 hh (by omega) (fun m hm2=>⟨(hm m (.tail _ hm2)).1,fun e=>(Gs.1 e).elim (fun e=>hnd (e▸hm2)) (hm m (.tail _ hm2)).2⟩);refine ⟨A',e1,e2,e3,fun z=>?_⟩;rw [e4,Gs,hd,List.mem_cons];constructor
   ·rintro ((h|h)|h)
    ·exact .inr (.inl h)
    ·exact .inl h
    ·exact .inr (.inr h)
   ·rintro (h|h|h)
    ·exact .inl (.inr h)
    ·exact .inl (.inl h)
    ·exact .inr h
  ·rw [B2 (dF (by omega)),List.drop_eq_nil_of_le (by omega)];exact ⟨A,rfl,hA,hh,fun z=>⟨.inl,fun e=>e.elim id fun e=>by cases e⟩⟩
end
end Go.Proofs.YtkbjbnkkfifbmaaGreat
namespace Go.Proofs.YtkbjbnkkfifbmaaGreat
open Go Go.RowKit Go.Eng
set_option maxRecDepth 10000
set_option linter.unusedVariables false
set_option linter.unusedSimpArgs false
section
variable {F:Nat} {s:mosaic_Spec} {p1:List law11_Post} {p2 p3:List Int} {p4 p5:Int}
theorem A1i {l:List Int} (hw:law11_works F=some true) (hl:10≤l.length):((gd (((decide (((l.length:Nat):Int)≥10))==true&&true)) (law11_works F) default).bind fun y1737=>some (bif (decide (((l.length:Nat):Int)≥10)) then y1737 else false))=some true:=by
 rw [dT (show ((l.length:Nat):Int)≥10 by omega),gdT (g:=(true==true&&true)) rfl,hw,sbd];rfl
theorem W0 (k:Nat) (n:Int):1≤(Kw k n).length:=by
 cases k with
 | zero=>exact Nat.le_refl _
 | succ k=>unfold Kw;split<;>simp
theorem A5b {A B:mosaic_Node} {K:List mosaic_Key} (c:CY F s p1 p2 p3 p4 p5) (hA:SN F s A) (hB:SN F s B) (ah:A.horizon=0) (bh:B.horizon=0) (he:∀x,has A x↔has B x) (ht:tot A.kept≤20) (hK:(ksN A).length=K.length) :
  Dp F p3 p4 p5 s K B.spec.Grid.X B.spec.Grid.Y B.horizon B.count B.spec.Grid.Size B.spec.Grid.Wide B.spec.Grid.High B.spec.Earth.Lo B.spec.Earth.Hi B.spec.Radars B.spec.Age B.radars B.kept B.looks A.spec.Grid.X A.spec.Grid.Y A.horizon A.count A.spec.Grid.Size A.spec.Grid.Wide A.spec.Grid.High A.spec.Earth.Lo A.spec.Earth.Hi A.spec.Radars A.spec.Age A.radars A.kept A.looks=some true:=by
 have hcF:=c.hF;have hpx:=c.px;have hs:=c.h.gs;have eA:∀(o:mosaic_Node),(mosaic_Node.mk (mosaic_Spec.mk (api_Grid.mk o.spec.Grid.X o.spec.Grid.Y o.spec.Grid.Size o.spec.Grid.Wide o.spec.Grid.High) (api_Span.mk o.spec.Earth.Lo o.spec.Earth.Hi) o.spec.Radars o.spec.Age) o.radars o.horizon o.kept o.count o.looks)=o:=fun _=>rfl;have hsm:=hA.ni.small;have hks:=(F4 A).1;have hab:Same F s A B:=⟨hA,hB,by rw [ah,bh],he⟩;have hnmA:∀m,has A m→m.Key.Name.size≤30:=fun m hm=>c.nm m (hA.okm hm);obtain ⟨L1,L2,q1,q2,q3⟩:=Vn (F:=F) (ts:=p3) (by omega) hs hab (by omega) hpx hnmA (by omega) c.ts c.tl;obtain ⟨A1,hA1⟩:∃A1,A1=(mosaic_Node.mk A.spec A.radars A.horizon A.kept A.count L1):=⟨_,rfl⟩;have sA1:SN F s A1:=hA1▸hA.lk q2;have tA1:tot A1.kept≤20:=by rw [hA1];exact ht
 have zA1:A1.horizon=0:=by rw [hA1];exact ah
 have hmul:tot A1.kept*(70+20*pix s)≤20*390:=Nat.mul_le_mul (by omega) (by omega);have hsn:=A1d (F:=F) hs sA1 c.nm (by omega) (by omega) (by omega) (by omega);have hbl:=Mv sA1 c.nm;have hb10:10≤(Bu A1++chB (chF 1 (Bu A1))).length:=by
  have e1:(chB (chF 1 (Bu A1))).length=4:=rfl;have e2:1≤(nmB A1.horizon).length:=W0 9 A1.horizon;have e3:1≤(nmB A1.count).length:=W0 9 A1.count;rw [List.length_append,e1];unfold Bu;simp only [List.length_append,List.length_cons,List.length_nil];omega
 have hbh:(Bu A1++chB (chF 1 (Bu A1))).length≤100000:=by
  have e1:(chB (chF 1 (Bu A1))).length=4:=rfl;rw [List.length_append];omega
 obtain ⟨C,r1,r2⟩:=A2t (F:=F) hcF c.h c.nm (by omega) sA1 (by omega) (by omega) (fun m hm=>by rw [zA1];exact (sA1.okm hm).key.2.2.1);obtain ⟨L3,L4,v1,v2,v3⟩:=Vn (F:=F) (ts:=p3) (by omega) hs r2 (by omega) hpx (fun m hm=>c.nm m (sA1.okm hm)) (by omega) c.ts c.tl;have hby:Byt (Bu A1++chB (chF 1 (Bu A1))):=(P9 A1).app (Xy _);unfold Dp;rw [eA,eA,M5 (by omega),sbd,B2 (by rw [hK];simp),q1,sbd,B2 (c:=!(true,L1,L2).1) rfl];rw [show (mosaic_Node.mk A.spec A.radars A.horizon A.kept A.count (true,L1,L2).2.1)=A1 from hA1.symm];have no_rest:∀k b,0≤b∧b≤255→(hk:k<(Bu A1++chB (chF 1 (Bu A1))).length)→(Bu A1++chB (chF 1 (Bu A1)))[k]≠b→Ck F s ((Bu A1++chB (chF 1 (Bu A1))).set k b)=some (.error 7):=fun k b hb hk hne=>A2s (F:=F) hcF c.h c.nm (by omega) sA1 (by omega) hb hk hne;rw [hsn,sbd];generalize hY:Bu A1++chB (chF 1 (Bu A1))=Y at *;rw [r1,sbd,Ew,B2 (c:=(C,(0:Int)).2 != 0) rfl,eA];rw [v1,sbd,B2 (c:=!(true,L3,L4).1) rfl]
 by_cases hp5:p5>0
 ·rw [Bn (c:=bif (decide (p5>0)) then (decide (((Y.length:Nat):Int)>0)) else false) (by rw [dT hp5];exact dT (by omega))];have ha:=c.a;have hb:=c.b;have m0:=Int.tmod_nonneg ((Y.length:Nat):Int) ha.1;have m1:=Int.tmod_lt_of_pos p4 (show (0:Int)<((Y.length:Nat):Int) by omega);obtain ⟨k,hk⟩:=Int.eq_ofNat_of_zero_le m0;have hkl:k<Y.length:=by omega
  have hu:=hby _ (List.getElem_mem hkl);have hg:=List.getElem?_eq_getElem hkl;rw [ckb (by omega),Gy (by omega),hk,Dk k _ rfl hg,ckb (by omega),ckb (by omega),ckb (by omega),Gy (by omega),Dk k _ rfl hg];have hs2:Sz Y (k:Int) (IntKind.u8.wrap ((Y[k]+p5).tmod 256))=some (Y.set k (IntKind.u8.wrap ((Y[k]+p5).tmod 256))):=by
   unfold Sz;rw [if_pos (by omega),Int.toNat_natCast]
  have hw8:IntKind.u8.wrap ((Y[k]+p5).tmod 256)=(Y[k]+p5)%256:=by
   rw [Int.tmod_eq_emod_of_nonneg (by omega),IntKind.wrap_u8];omega
  rw [hs2,sbd,hw8,no_rest k _ (by omega) hkl (by omega),sbd,Mi,B2 (c:=(7:Int) != 7) rfl];exact A1i c.w (by rw [List.length_set];omega)
 ·rw [B2 (c:=bif (decide (p5>0)) then (decide (((Y.length:Nat):Int)>0)) else false) (by rw [dF hp5];rfl)];exact A1i c.w hb10
theorem A5a {A B:mosaic_Node} {MM:List mosaic_Message} {i:Nat} (c:CY F s p1 p2 p3 p4 p5) (hi:i≤20) (h:SI F s A B MM i) :
  Es F p3 p4 p5 s A.spec.Grid.X A.spec.Grid.Y A.horizon A.count A.spec.Grid.Size A.spec.Grid.Wide A.spec.Grid.High A.spec.Earth.Lo A.spec.Earth.Hi A.spec.Radars A.spec.Age B.spec.Grid.X B.spec.Grid.Y B.horizon B.count B.spec.Grid.Size B.spec.Grid.Wide B.spec.Grid.High B.spec.Earth.Lo B.spec.Earth.Hi B.spec.Radars B.spec.Age A.radars A.kept A.looks B.radars B.kept B.looks (MM.map (·.Key))=some true:=by
 have hcF:=c.hF;have hs:=c.h.gs;have ta:=h.at_;have tb:=h.bt;have hml:=h.ml;have eA:∀(o:mosaic_Node),(mosaic_Node.mk (mosaic_Spec.mk (api_Grid.mk o.spec.Grid.X o.spec.Grid.Y o.spec.Grid.Size o.spec.Grid.Wide o.spec.Grid.High) (api_Span.mk o.spec.Earth.Lo o.spec.Earth.Hi) o.spec.Radars o.spec.Age) o.radars o.horizon o.kept o.count o.looks)=o:=fun _=>rfl;have sA:=h.a.ni.small;have sB:=h.b.ni.small;have kA:=(F4 A).1;have kB:=(F4 B).1;have inj:=Yd h.nd;obtain ⟨x,x1,x2,lx0,x3⟩:=Su (F:=F) (by omega) hs h.a h.b (fun a b ha hb e=>inj a b (h.am a ha) (h.am b hb) e) (by omega) (by omega);obtain ⟨y,y1,y2,ly0,y3⟩:=Su (F:=F) (by omega) hs h.b h.a (fun a b ha hb e=>inj a b (h.bm a ha) (h.bm b hb) e) (by omega) (by omega);have x4:∀m,m∈x↔has A m∧¬has B m:=fun m=>(x3 m).trans ⟨fun k=>⟨k.1,fun e=>k.2 m e rfl⟩,fun k=>⟨k.1,fun z hz e=>k.2 (inj z m (h.bm z hz) (h.am m k.1) e▸hz)⟩⟩;have y4:∀m,m∈y↔has B m∧¬has A m:=fun m=>(y3 m).trans ⟨fun k=>⟨k.1,fun e=>k.2 m e rfl⟩,fun k=>⟨k.1,fun z hz e=>k.2 (inj z m (h.am z hz) (h.bm m k.1) e▸hz)⟩⟩;have lx:x.length≤20:=by omega
 have ly:y.length≤20:=by omega
 unfold Es;rw [eA,eA,M5 (by omega),sbd,x1,sbd,M5 (by omega),sbd,y1,sbd,B2 (c:=bif ((x,(0:Int)).2 != 0) then true else ((y,(0:Int)).2 != 0)) rfl];obtain ⟨B',b1,b2,b3,b4⟩:=A5q (A:=A) (K:=MM.map (·.Key)) (x:=(x,0)) (y:=(y,0)) c (by show x.length≤100;omega) x2 F 0 B (Nat.zero_le _) (by show x.length-0<F;omega) h.b h.bh (by show tot B.kept+(x.length-0)≤200;omega) (fun m hm=>by
  rw [List.drop_zero] at hm;have:=(x4 m).1 hm;exact ⟨h.a.okm this.1,this.2⟩)
 rw [show Cv F p3 p4 p5 s A.spec.Grid.X A.spec.Grid.Y A.horizon A.count A.spec.Grid.Size A.spec.Grid.Wide A.spec.Grid.High A.spec.Earth.Lo A.spec.Earth.Hi A.spec.Radars A.spec.Age A.radars A.kept A.looks (MM.map (·.Key)) (x,0) (y,0) F B.spec.Grid.X B.spec.Grid.Y B.horizon B.count B.spec.Grid.Size B.spec.Grid.Wide B.spec.Grid.High B.spec.Earth.Lo B.spec.Earth.Hi B.spec.Radars B.spec.Age B.radars B.kept B.looks 0=_ from b1];unfold Et;obtain ⟨A',a1,a2,a3,a4⟩:=A5p (B:=B') (K:=MM.map (·.Key)) (y:=(y,0)) c (by show y.length≤100;omega) y2 F 0 A (Nat.zero_le _) (by show y.length-0<F;omega) h.a h.ah (by show tot A.kept+(y.length-0)≤200;omega) (fun m hm=>by
  rw [List.drop_zero] at hm;have:=(y4 m).1 hm;exact ⟨h.b.okm this.1,this.2⟩)
 rw [show Cu F p3 p4 p5 s (MM.map (·.Key)) (y,0) B'.spec.Grid.X B'.spec.Grid.Y B'.horizon B'.count B'.spec.Grid.Size B'.spec.Grid.Wide B'.spec.Grid.High B'.spec.Earth.Lo B'.spec.Earth.Hi B'.spec.Radars B'.spec.Age B'.radars B'.kept B'.looks F A.spec.Grid.X A.spec.Grid.Y A.horizon A.count A.spec.Grid.Size A.spec.Grid.Wide A.spec.Grid.High A.spec.Earth.Lo A.spec.Earth.Hi A.spec.Radars A.spec.Age A.radars A.kept A.looks 0=_ from a1];rw [List.drop_zero] at a4 b4;have hA':∀m,has A' m↔m∈MM:=by
  intro m;rw [a4,show (m∈((y,(0:Int)).1))↔_ from y4 m];constructor
  ·rintro (e|e)
   ·exact h.am m e
   ·exact h.bm m e.1
  ·intro e
   by_cases k:has A m
   ·exact .inl k
   ·exact .inr ⟨(h.mm m e).1.elim (fun q=>absurd q k) id,k⟩
 have hB':∀m,has B' m↔m∈MM:=by
  intro m;rw [b4,show (m∈((x,(0:Int)).1))↔_ from x4 m];constructor
  ·rintro (e|e)
   ·exact h.bm m e
   ·exact h.am m e.1
  ·intro e
   by_cases k:has B m
   ·exact .inl k
   ·exact .inr ⟨(h.mm m e).1.elim id (fun q=>absurd q k),k⟩
 have hnd:MM.Nodup:=by
  have:=List.pairwise_map.1 h.nd;exact this.imp fun h e=>h (by rw [e])
 have htA:tot A'.kept=MM.length:=by
  rw [←Kv a2.ni];exact ((List.perm_ext_iff_of_nodup (Uo a2) hnd).2 fun m=>msgs_has.trans (hA' m)).length_eq
 have hkA:(ksN A').length=(MM.map (·.Key)).length:=by
  refine ((List.perm_ext_iff_of_nodup (Vt a2.ni) h.nd).2 fun k=>?_).length_eq;rw [A0l a2.ni,List.mem_map];exact ⟨fun ⟨m,h1,h2⟩=>⟨m,(hA' m).1 h1,h2⟩,fun ⟨m,h1,h2⟩=>⟨m,(hA' m).2 h1,h2⟩⟩
 exact A5b c a2 b2 a3 b3 (fun m=>(hA' m).trans (hB' m).symm) (by omega) hkA
theorem A5c (c:CY F s p1 p2 p3 p4 p5):∀(n i:Nat) (A B:mosaic_Node) (MM:List mosaic_Message),i≤p1.length→p1.length-i<n→SI F s A B MM i →
  Ba F p1 p2 p3 p4 p5 s n A.spec.Grid.X A.spec.Grid.Y A.horizon A.count A.spec.Grid.Size A.spec.Grid.Wide A.spec.Grid.High A.spec.Earth.Lo A.spec.Earth.Hi A.spec.Radars A.spec.Age B.spec.Grid.X B.spec.Grid.Y B.horizon B.count B.spec.Grid.Size B.spec.Grid.Wide B.spec.Grid.High B.spec.Earth.Lo B.spec.Earth.Hi B.spec.Radars B.spec.Age A.radars A.kept A.looks B.radars B.kept B.looks (MM.map (·.Key)) (i:Int)=some true:=by
 have hcF:=c.hF;have hcl:=c.len;intro n
 induction n with
 | zero=>intro i A B MM _ h;omega
 | succ n ih =>
  intro i A B MM hi hn h;have hml:=h.ml;have hkl:(MM.map (·.Key)).length=MM.length:=List.length_map _;rw [Ba];unfold Fy
  by_cases hc:i<p1.length
  ·have hpo:=c.l _ (List.getElem_mem hc);have hm:=(A4h c.h hpo).1;rw [Bn (dT (by omega)),Dk i p1[i] rfl (List.getElem?_eq_getElem hc),A2q (by omega) c.h hpo,sbd];have hmet:=A2j (F:=F) (s:=s) (p1:=p1) (p2:=p2) (p3:=p3) (p4:=p4) (p5:=p5) (A:=A) (B:=B) (K:=MM.map (·.Key)) (x:=(i:Int)) (n':=n) (m:=Lt p1[i] s) (by omega) F 0 false (Nat.zero_le _) (by omega);rw [List.drop_zero,Bool.false_or] at hmet;refine Eq.trans hmet ?_;unfold Eu
   by_cases hk:(Lt p1[i] s).Key∈MM.map (·.Key)
   ·rw [Bn (dT hk)];unfold Cc;rw [ckb (by omega)];exact ih (i+1) A B MM hc (by omega) h.mono
   ·rw [B2 (dF hk),Kd (by simp;omega) (by decide)];have step:∀z:Int,(z=0∨z=1∨z=2)→Ct F A.spec.Grid.X A.spec.Grid.Y A.horizon A.count A.spec.Grid.Size A.spec.Grid.Wide A.spec.Grid.High A.spec.Earth.Lo A.spec.Earth.Hi A.spec.Radars A.spec.Age B.spec.Grid.X B.spec.Grid.Y B.horizon B.count B.spec.Grid.Size B.spec.Grid.Wide B.spec.Grid.High B.spec.Earth.Lo B.spec.Earth.Hi B.spec.Radars B.spec.Age A.radars A.kept A.looks B.radars B.kept B.looks (i:Int) (Ba F p1 p2 p3 p4 p5 s n) (Lt p1[i] s) (MM.map (·.Key)++[(Lt p1[i] s).Key]) z=some true:=by
     intro z hz;obtain ⟨A',B',e1,e2⟩:=A1c (n:=n) (K:=MM.map (·.Key)++[(Lt p1[i] s).Key]) c (by omega) h hm hk hz;rw [e1];have:=ih (i+1) A' B' (MM++[Lt p1[i] s]) hc (by omega) e2;rw [List.map_append] at this;exact this
    by_cases h2:i<p2.length
    ·have hy:=c.sd _ (List.getElem_mem h2);have t0:=Int.tmod_nonneg 3 hy.1;have t1:=Int.tmod_lt_of_pos p2[i] (show (0:Int)<3 by omega);rw [Bn (dT (by omega)),Dk i _ rfl (List.getElem?_eq_getElem h2),ckb (by omega),Gy (by omega)];exact step _ (by omega)
    ·rw [B2 (dF (by omega))];exact step 0 (.inl rfl)
  ·rw [B2 (dF (by omega))];exact A5a c (by omega) h
end
theorem Zd:law11_works 300000=some true:=by kernel_rfl
theorem T3 (n:law11_Net) (l:List law11_Post) (p2 ts:List Int) (p4 p5:Int) (hn:Tp n) (hl:∀p∈l,okPost p) (hp2:∀y∈p2,0≤y∧y≤255) (hts:∀t∈ts,0≤t∧t≤65535) (h4:0≤p4∧p4≤65535) (h5:0≤p5∧p5≤255):Gc 300000 n l p2 ts p4 p5=some true:=by
 have hw:=Zd;generalize hF:300000=F at hw ⊢;have h:=A30 (F:=F) hn;have hP:pix (Kb n)≤16:=by
  have h':=hn;obtain ⟨hw,hh,_,_,_⟩:=h';have t1:=tm hw.1 (y:=4) (by omega);have t2:=tm hh.1 (y:=4) (by omega);have hm:=Lu (x:=1+n.Wide.tmod 4) (y:=1+n.High.tmod 4) (A:=4) (B:=4) (by omega) (by omega);unfold pix Kb;dsimp only;omega
 have hnm:∀m,okM (Kb n) m→m.Key.Name.size≤30:=by
  intro m hm;obtain ⟨r,hr⟩:=hm.key.1;have hname:=(h.gs.r _ _ hr).2.2.2.2;rw [Rf h] at hr;obtain ⟨i,x,hx,rfl⟩:=Yg hn r (List.mem_of_find?_eq_some hr);rw [←hname];show (nmR i).size≤30;unfold nmR
  split
  ·decide
  ·split<;>decide
 unfold Gc
 by_cases hc:l.length≤20∧ts.length≤10
 ·obtain ⟨hc1,hc2⟩:=hc;have c:CY F (Kb n) l p2 ts p4 p5:=⟨by omega,h,hP,hnm,hts,by omega,hw,hl,hc1,hp2,h4,h5⟩;rw [B2 (c:=bif (decide (((l.length:Nat):Int)>20)) then true else (decide (((ts.length:Nat):Int)>10))) (by rw [dF (by omega),dF (by omega)];rfl)];have e:Gd F (law11_Net.mk n.Wide n.High ((law11_Station.mk n.Stations.1.X n.Stations.1.Y n.Stations.1.Z n.Stations.1.Rose n.Stations.1.Gates n.Stations.1.Width n.Stations.1.Lo n.Stations.1.Hi),(law11_Station.mk n.Stations.2.1.X n.Stations.2.1.Y n.Stations.2.1.Z n.Stations.2.1.Rose n.Stations.2.1.Gates n.Stations.2.1.Width n.Stations.2.1.Lo n.Stations.2.1.Hi),(law11_Station.mk n.Stations.2.2.X n.Stations.2.2.Y n.Stations.2.2.Z n.Stations.2.2.Rose n.Stations.2.2.Gates n.Stations.2.2.Width n.Stations.2.2.Lo n.Stations.2.2.Hi)) n.Count n.Age)=some (Kb n):=A2h (by omega) hn;rw [e,sbd,Wr (by omega) h,sbd,Ew,sbd,Ew,B2 (c:=bif ((Q1 (Kb n),(0:Int)).2 != 0) then true else ((Q1 (Kb n),(0:Int)).2 != 0)) rfl];exact A5c c F 0 (Q1 (Kb n)) (Q1 (Kb n)) [] (Nat.zero_le _) (by omega) ⟨Ui,Ui,rfl,rfl,Nat.le_refl _,Nat.le_refl _,.nil,fun x hx=>(by cases hx),fun x hx=>(by cases hx),fun x hx=>(by cases hx),Nat.le_refl _⟩
 ·rw [Bn (c:=bif (decide (((l.length:Nat):Int)>20)) then true else (decide (((ts.length:Nat):Int)>10))) (by
   by_cases h1:l.length>20
   ·rw [dT (by omega)];rfl
   ·rw [dF (by omega)];exact dT (by omega)),hw]
  rfl
end Go.Proofs.YtkbjbnkkfifbmaaGreat
