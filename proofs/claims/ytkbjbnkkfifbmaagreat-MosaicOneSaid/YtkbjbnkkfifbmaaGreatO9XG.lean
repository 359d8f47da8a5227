import Derived.Test.YtkbjbnkkfifbmaaGreatO9WkD
set_option linter.unusedVariables false
set_option linter.unusedSimpArgs false
set_option linter.unusedSectionVars false
namespace Go.Proofs.YtkbjbnkkfifbmaaGreat
open Go Go.RowKit Go.Eng
set_option maxRecDepth 10000
set_option linter.unusedVariables false
set_option linter.unusedSimpArgs false
theorem ckb {β:Type} {x:Int} {f:Int→Option β} (h:-9000000000000000000≤x∧x≤9000000000000000000):(ck x).bind f=f x:=by
 unfold ck;rw [if_pos (by omega)];rfl
theorem gdT {α:Type} {g:Bool} {o:Option α} {d:α} (h:g=true):gd g o d=o:=by subst h;rfl
theorem gdF {α:Type} {g:Bool} {o:Option α} {d:α} (h:g=false):gd g o d=some d:=by subst h;rfl
theorem Ce {α:Type} {c:Bool} {x y:α} (h:c=true):(bif c then x else y)=x:=by rw [h];rfl
theorem B3 {α:Type} {c:Bool} {x y:α} (h:c=false):(bif c then x else y)=y:=by rw [h];rfl
theorem sbd {α β:Type} {x:α} {f:α→Option β}:(some x).bind f=f x:=rfl
theorem dT {p:Prop} [Decidable p] (h:p):decide p=true:=decide_eq_true h
theorem dF {p:Prop} [Decidable p] (h:¬p):decide p=false:=decide_eq_false h
theorem Cv {α β:Type} {l:List α} {i:Int} {f:α→Option β} (n:Nat) (x:α) (hi:i=(n:Int)) (h:l[n]? = some x):(Bj l i).bind f=f x:=by
 subst hi;unfold Bj;rw [if_pos (by omega),show ((n:Int)).toNat=n by omega,h];rfl
theorem Lt {α β:Type} {l k:List α} {B:Nat} {f:List α→Option β} (h:(l.length+k.length)*B≤140737488355328) (hB:1≤B):(apd B l k).bind f=f (l++k):=by
 unfold apd;have:l.length+k.length≤(l.length+k.length)*B:=Nat.le_mul_of_pos_right _ hB;rw [if_pos ⟨h,by omega⟩];rfl
theorem A4l {x:Int} (h:-9000000000000000000≤x∧x≤9000000000000000000):IntKind.i64.wrap x=x:=by rw [IntKind.wrap_i64];omega
theorem U1 {x y A B:Int} (hx:-A≤x∧x≤A) (hy:-B≤y∧y≤B):-(A*B)≤x*y∧x*y≤A*B:=by
 have h1:(x*y).natAbs≤A.natAbs*B.natAbs:=by rw [Int.natAbs_mul];exact Nat.mul_le_mul (by omega) (by omega)
 have h2:0≤A*B:=Int.mul_nonneg (by omega) (by omega);have h3:(A*B).natAbs=A.natAbs*B.natAbs:=Int.natAbs_mul A B;omega
theorem L6 {x y A B:Int} (hx:0≤x∧x≤A) (hy:0≤y∧y≤B):0≤x*y∧x*y≤A*B :=
 ⟨Int.mul_nonneg hx.1 hy.1,(U1 (A:=A) (B:=B) ⟨by omega,hx.2⟩ ⟨by omega,hy.2⟩).2⟩
theorem Y1 {β:Type} {x y:Int} {f:Int→Option β} (hx:0≤x) (hx2:x≤9000000000000000000) (hy:0<y):(Mx x y).bind f=f (x/y):=by
 unfold Mx;rw [if_neg (by omega),Int.tdiv_eq_ediv_of_nonneg hx,ckb];have h1:0≤x/y:=Int.ediv_nonneg hx (by omega);have h2:x/y≤x:=Int.ediv_le_self _ hx;omega
structure VS (s:api_Site):Prop where
 x:-1048576≤s.X∧s.X≤1048576
 y:-1048576≤s.Y∧s.Y≤1048576
 z:0≤s.Z∧s.Z≤20000
 rose:1≤s.Rose∧s.Rose≤90
 gates:1≤s.Gates∧s.Gates≤200
 step:50≤s.Step∧s.Step≤2000
 width:0≤s.Width∧s.Width≤8
structure VG (g:api_Grid):Prop where
 x:-1048576≤g.X∧g.X≤1048576
 y:-1048576≤g.Y∧g.Y≤1048576
 size:1≤g.Size∧g.Size≤10000
 wide:1≤g.Wide∧g.Wide≤64
 high:1≤g.High∧g.High≤64
theorem Eo {n a b:Int} (h:a≤n∧n≤b):Aa n a b=true:=by unfold Aa;rw [dT h.1,dT h.2];rfl
theorem Pb {g:api_Grid} (h:VG g):Bp g=0:=by
 unfold Bp Cn;rw [Eo h.x,Eo h.y,Eo h.size,Eo h.wide,Eo h.high];rfl
theorem Ta {F:Nat} {s:api_Site} (h:VS s) (hn:Lv F s.Name=some true):beam_CheckSite F s=some 0:=by
 unfold beam_CheckSite;rw [hn,sbd,Eo h.x,Eo h.y,Eo h.z];simp only [Bool.not_true,cond_false];unfold E5 D9;rw [Eo h.rose,Eo h.gates,Eo h.step,Eo h.width];rfl
def slt (t:Int):beam_slant:=⟨262144-t*t,1024*t,262144+t*t⟩
theorem sqB {t:Int} (h:-264≤t∧t≤264):0≤t*t∧t*t≤69696:=by
 have h1:=U1 (A:=264) (B:=264) h h;have h2:0≤t*t:=by
  rcases Int.le_total 0 t with h|h
  ·exact Int.mul_nonneg h h
  ·exact Int.mul_nonneg_of_nonpos_of_nonpos h h
 exact ⟨h2,by omega⟩
theorem Lb {F:Nat} {t:Int} (h:-264≤t∧t≤264):Ec F t=some (slt t):=by
 have h1:=sqB h;unfold Ec;rw [ckb (by omega),ckb (by omega),ckb (by omega),ckb (by omega),ckb (by omega)];rfl
theorem Sj {F:Nat} {s:api_Site} {t j:Int} (hs:VS s) (ht:0≤t∧t≤256) (hj:0≤j∧j≤200):∃b,Gy F j s (slt t)=some b∧0≤b∧b≤400000:=by
 have h1:=sqB (t:=t) (by omega);have h2:=hs.step;have h3:=L6 (x:=j) (y:=s.Step) (A:=200) (B:=2000) hj (by omega);have h4:=L6 (x:=j*s.Step) (y:=262144-t*t) (A:=400000) (B:=262144) (by omega) (by omega);refine ⟨(j*s.Step*(262144-t*t))/(262144+t*t),?_,Int.ediv_nonneg (by omega) (by omega),?_⟩
 ·unfold Gy slt;dsimp only;rw [ckb (by omega),ckb (by omega),Y1 (by omega) (by omega) (by omega)]
 ·refine Int.ediv_le_of_le_mul (by omega) ?_;have h5:j*s.Step*(262144-t*t)≤400000*(262144-t*t):=Int.mul_le_mul_of_nonneg_right (by omega) (by omega);omega
theorem A3n {F:Nat} {s:api_Site} {t w:Int} (hs:VS s) (ht:0≤t∧t≤256):∀(n:Nat) (lo hi:Int),0≤lo→lo<hi→hi≤s.Gates→hi-lo≤n→∃j,Hc F s w (slt t) n lo hi=some j∧0≤j∧j<s.Gates:=by
 intro n;have hg:=hs.gates
 induction n with
 | zero=>intro lo hi _ _ _ h;omega
 | succ n ih =>
  intro lo hi h0 h1 h2 h3;unfold Hc Kk;rw [ckb (by omega)]
  by_cases hc:hi-lo>1
  ·rw [Ce (dT hc),ckb (by omega),Y1 (by omega) (by omega) (by omega)];obtain ⟨b,hb,b0,b1⟩:=Sj (F:=F) (t:=t) (j:=(lo+hi)/2) hs ht (by omega);have hbb:=L6 (x:=b) (y:=b) ⟨b0,b1⟩ ⟨b0,b1⟩;rw [hb,sbd,sbd,ckb (by omega)]
   by_cases hw:b*b≤w
   ·rw [Ce (dT hw)];exact ih _ _ (by omega) (by omega) h2 (by omega)
   ·rw [B3 (dF hw)];exact ih _ _ h0 (by omega) (by omega) (by omega)
  ·rw [B3 (dF hc)];exact ⟨lo,rfl,h0,by omega⟩
theorem A0r {F:Nat} {s:api_Site} {t w:Int} (hF:200≤F) (hs:VS s) (ht:0≤t∧t≤256):∃j,Lx F s t w=some j∧j<s.Gates∧-1≤j:=by
 have hg:=hs.gates;obtain ⟨b,hb,b0,b1⟩:=Sj (F:=F) (t:=t) (j:=s.Gates) hs ht (by omega);have hbb:=L6 (x:=b) (y:=b) ⟨b0,b1⟩ ⟨b0,b1⟩;unfold Lx;rw [Lb (by omega),sbd,hb,sbd,ckb (by omega)]
 by_cases hw:w≥b*b
 ·rw [Ce (dT hw)];exact ⟨-1,rfl,by omega,by omega⟩
 ·rw [B3 (dF hw)];obtain ⟨j,hj,j0,j1⟩:=A3n (F:=F) (w:=w) hs ht F 0 s.Gates (by omega) (by omega) (by omega) (by omega);exact ⟨j,hj,j1,by omega⟩
theorem To {F:Nat} {r a:Int} (hr:1≤r∧r≤90) (ha:0≤a∧a<r):Gx F r a=some ⟨2*r*a,r*r-a*a,r*r+a*a⟩:=by
 have h1:=L6 (x:=r) (y:=r) (A:=90) (B:=90) (by omega) (by omega);have h2:=L6 (x:=a) (y:=a) (A:=90) (B:=90) (by omega) (by omega);have h3:=L6 (x:=2*r) (y:=a) (A:=180) (B:=90) (by omega) (by omega);have e1:E4 a r=some a:=by unfold E4;rw [if_neg (by omega),Int.tmod_eq_of_lt ha.1 ha.2]
 have e2:Mx a r=some 0:=by unfold Mx;rw [if_neg (by omega),Int.tdiv_eq_zero_of_lt ha.1 ha.2];rfl
 unfold Gx;rw [e1,sbd,ckb (by omega),ckb (by omega),ckb (by omega),ckb (by omega),ckb (by omega),ckb (by omega),ckb (by omega),ckb (by omega),e2,sbd];rfl
theorem A48 {F:Nat} {r x y q:Int} (hr:1≤r∧r≤90) (hx:-10000000≤x∧x≤10000000) (hy:-10000000≤y∧y≤10000000) (hq:0≤q∧q≤4):∀(n:Nat) (lo hi:Int),0≤lo→lo<hi→hi≤r→hi-lo≤n→∃j,J2 F r x y q n lo hi=some j∧0≤j∧j≤450:=by
 intro n
 induction n with
 | zero=>intro lo hi _ _ _ h;omega
 | succ n ih =>
  intro lo hi h0 h1 h2 h3;unfold J2 Lf;rw [ckb (by omega)]
  by_cases hc:hi-lo>1
  ·rw [Ce (dT hc),ckb (by omega),Y1 (by omega) (by omega) (by omega),To hr (by omega),sbd];obtain ⟨m,hm⟩:∃m,m=(lo+hi)/2:=⟨_,rfl⟩;rw [←hm];have k1:=L6 (x:=r) (y:=r) (A:=90) (B:=90) (by omega) (by omega);have k2:=L6 (x:=m) (y:=m) (A:=90) (B:=90) (by omega) (by omega);have k3:=L6 (x:=2*r) (y:=m) (A:=180) (B:=90) (by omega) (by omega);have k4:=U1 (x:=r*r-m*m) (y:=x) (A:=16200) (B:=10000000) (by omega) hx;have k5:=U1 (x:=2*r*m) (y:=y) (A:=16200) (B:=10000000) (by omega) hy;unfold Gv;dsimp only;rw [ckb (by omega),ckb (by omega),sbd]
   cases decide ((r*r-m*m)*x≥2*r*m*y) with
   | true=>exact ih _ _ (by omega) (by omega) h2 (by omega)
   | false=>exact ih _ _ h0 (by omega) (by omega) (by omega)
  ·rw [B3 (dF hc)];have k1:=L6 (x:=q) (y:=r) (A:=4) (B:=90) hq (by omega);unfold Lh;rw [ckb (by omega),ckb (by omega)];exact ⟨_,rfl,by omega,by omega⟩
theorem A35 {F:Nat} {r x y:Int} (hF:100≤F) (hr:1≤r∧r≤90) (hx:-10000000≤x∧x≤10000000) (hy:-10000000≤y∧y≤10000000) (h0:¬(x=0∧y=0)):∃j,N0 F r x y=some j∧0≤j∧j≤450:=by
 have step:∀(n:Nat) (x y q:Int),-10000000≤x∧x≤10000000→-10000000≤y∧y≤10000000→0≤q∧q≤4 →
   ((x<0∨y≤0)∧Ez F r (n+1) x y q=Ez F r n (-y) x (q+1))∨(¬(x<0∨y≤0)∧∃j,Ez F r (n+1) x y q=some j∧0≤j∧j≤450):=by
  intro n x y q hx hy hq
  by_cases hc:x<0∨y≤0
  ·refine .inl ⟨hc,?_⟩;rw [Ez];unfold K5;have e:(bif (decide (x<0)) then true else (decide (y≤0)))=true:=by
    rcases hc with h|h
    ·rw [dT h];rfl
    ·rw [dT h];cases decide (x<0)<;>rfl
   rw [e,cond_true,ckb (by omega),A4l (by omega),show 0-y=-y by omega]
  ·refine .inr ⟨hc,?_⟩;rw [Ez];unfold K5 Lg;have e:(bif (decide (x<0)) then true else (decide (y≤0)))=false:=by rw [dF (by omega),dF (by omega)];rfl
   rw [e,cond_false];exact A48 hr hx hy hq F 0 r (by omega) (by omega) (by omega) (by omega)
 obtain ⟨n,rfl⟩:∃n,F=n+4:=⟨F-4,by omega⟩;unfold N0;rcases step (n+3) x y 0 hx hy (by omega) with ⟨c1,e1⟩|⟨_,h⟩
 ·rw [e1];rcases step (n+2) (-y) x (0+1) (by omega) hx (by omega) with ⟨c2,e2⟩|⟨_,h⟩
  ·rw [e2];rcases step (n+1) (-x) (-y) (0+1+1) (by omega) (by omega) (by omega) with ⟨c3,e3⟩|⟨_,h⟩
   ·rw [e3];rcases step n (- -y) (-x) (0+1+1+1) (by omega) (by omega) (by omega) with ⟨c4,e4⟩|⟨_,h⟩
    ·omega
    ·exact h
   ·exact h
  ·exact h
 ·exact h
theorem A0p {F:Nat} {s:api_Site} {t x y:Int} (hF:200≤F) (hs:VS s) (ht:0≤t∧t≤256) (hx:-3000000≤x∧x≤3000000) (hy:-3000000≤y∧y≤3000000) :
  ∃a j b,Lw F s t x y=some (a,j,b)∧(0≤a∧a≤450)∧(0≤j∧j<s.Gates):=by
 have h1:=hs.x;have h2:=hs.y;have hg:=hs.gates;unfold Lw;rw [ckb (by omega),ckb (by omega)]
 by_cases hc:x-s.X=0∧y-s.Y=0
 ·rw [hc.1,hc.2];exact ⟨0,0,true,rfl,by omega,by omega⟩
 ·have e:(bif (x-s.X==0) then (y-s.Y==0) else false)=false:=by
   cases h:(x-s.X==0) with
   | false=>rfl
   | true =>
    cases h':(y-s.Y==0) with
    | false=>rfl
    | true=>exact absurd ⟨by simpa using h,by simpa using h'⟩ hc
  have k1:=U1 (x:=x-s.X) (y:=x-s.X) (A:=5000000) (B:=5000000) (by omega) (by omega);have k2:=U1 (x:=y-s.Y) (y:=y-s.Y) (A:=5000000) (B:=5000000) (by omega) (by omega);rw [B3 e,ckb (by omega),ckb (by omega),ckb (by omega)];obtain ⟨j,hj,j1,j0⟩:=A0r (F:=F) (t:=t) (w:=(x-s.X)*(x-s.X)+(y-s.Y)*(y-s.Y)) hF hs ht;rw [hj,sbd]
  by_cases hn:j<0
  ·rw [Ce (dT hn)];exact ⟨0,0,false,rfl,by omega,by omega⟩
  ·rw [B3 (dF hn)];obtain ⟨a,ha,a0,a1⟩:=A35 (F:=F) (r:=s.Rose) (x:=x-s.X) (y:=y-s.Y) (by omega) hs.rose (by omega) (by omega) hc;rw [ha,sbd];exact ⟨a,j,true,rfl,by omega,by omega⟩
theorem A1o {F:Nat} {s:api_Site} {t:Int} {g:api_Grid} {row:Int} (hF:200≤F) (hs:VS s) (hg:VG g) (ht:0≤t∧t≤256) (hr:0≤row∧row<64) (k2:List Int→Int→Option (List Int×Int)) :
  ∀(n:Nat) (m:Nat) (l:List Int) (c:Int),0≤c→c+m=g.Wide→m<n→l.length+m≤10000→∃l',G1 F s t g row k2 n l c=k2 l' (row+1)∧l'.length=l.length+m:=by
 have hw:=hg.wide;have hz:=hg.size;have hX:=hg.x;have hY:=hg.y;intro n
 induction n with
 | zero=>intro m l c _ _ h;omega
 | succ n ih =>
  intro m l c h0 h1 h2 h3;rw [G1];unfold Ki
  by_cases hc:c<g.Wide
  ·have k1:=L6 (x:=c) (y:=g.Size) (A:=64) (B:=10000) (by omega) (by omega);have k2':=L6 (x:=row) (y:=g.Size) (A:=64) (B:=10000) (by omega) (by omega);rw [Ce (dT hc),ckb (by omega),ckb (by omega),Y1 (by omega) (by omega) (by omega),ckb (by omega),ckb (by omega),ckb (by omega),Y1 (by omega) (by omega) (by omega),ckb (by omega)];obtain ⟨a,j,b,hf,ha,hj⟩:=A0p (F:=F) (t:=t) (x:=g.X+c*g.Size+g.Size/2) (y:=g.Y+row*g.Size+g.Size/2) hF hs ht (by omega) (by omega);rw [hf,sbd];have hgt:=hs.gates;have k3:=L6 (x:=a) (y:=s.Gates) (A:=450) (B:=200) ha (by omega);have fin:∀v:Int,∃l',Hb l c (G1 F s t g row k2 n) v=k2 l' (row+1)∧l'.length=l.length+m:=by
    intro v;unfold Hb;rw [Lt (by simp;omega) (by decide),ckb (by omega)];obtain ⟨l',e,h⟩:=ih (m-1) (l++[v]) (c+1) (by omega) (by omega) (by omega) (by simp;omega);exact ⟨l',e,by rw [h];simp;omega⟩
   cases b with
   | true =>
    simp only [cond_true];rw [ckb (by omega),ckb (by omega)];exact fin _
   | false=>exact fin _
  ·rw [B3 (dF hc)];unfold Kj;rw [ckb (by omega)];exact ⟨l,rfl,by omega⟩
theorem A1n {F:Nat} {s:api_Site} {t:Int} {g:api_Grid} (hF:200≤F) (hs:VS s) (hg:VG g) (ht:0≤t∧t≤256) :
  ∀(n:Nat) (m:Nat) (l:List Int) (r:Int),0≤r→r+m=g.High→m<n→l.length+m*g.Wide.toNat≤5000→∃l',G0 F s t g n l r=some (l',0)∧l'.length=l.length+m*g.Wide.toNat:=by
 have hw:=hg.wide;have hh:=hg.high;intro n
 induction n with
 | zero=>intro m l c _ _ h;omega
 | succ n ih =>
  intro m l r h0 h1 h2 h3;rw [G0];unfold Kh
  by_cases hc:r<g.High
  ·rw [Ce (dT hc)];obtain ⟨l',e,hl⟩:=A1o (F:=F) (s:=s) (t:=t) (g:=g) (row:=r) hF hs hg ht (by omega) (G0 F s t g n) F g.Wide.toNat l 0 (by omega) (by omega) (by omega) (by omega);rw [e];obtain ⟨k,rfl⟩:∃k,m=k+1:=⟨m-1,by omega⟩;rw [Nat.add_mul] at h3 ⊢;obtain ⟨l2,e2,hl2⟩:=ih k l' (r+1) (by omega) (by omega) (by omega) (by omega);exact ⟨l2,e2,by omega⟩
  ·rw [B3 (dF hc)];have:m=0:=by omega
   subst this;exact ⟨l,rfl,by simp⟩
theorem A0h {F:Nat} {s:api_Site} {t:Int} {g:api_Grid} (hF:200≤F) (hn:beam_CheckSite F s=some 0) (hs:VS s) (hg:VG g) (ht:0≤t∧t≤256) :
  ∃l,Jp F s t g=some (l,0)∧l.length=(g.Wide*g.High).toNat:=by
 have hw:=hg.wide;have hh:=hg.high;have k1:=L6 (x:=g.Wide) (y:=g.High) (A:=64) (B:=64) (by omega) (by omega);have k2:((g.High.toNat*g.Wide.toNat:Nat):Int)=g.Wide*g.High:=by
  rw [Int.natCast_mul,Int.toNat_of_nonneg (by omega),Int.toNat_of_nonneg (by omega),Int.mul_comm]
 unfold Jp;rw [hn,sbd,Pb hg,Eo ht];simp only [bne_self_eq_false,cond_false,Bool.not_true];rw [ckb (by omega),show mk0 8 (g.Wide*g.High)=some (g.Wide*g.High).toNat from by unfold mk0;rw [if_pos (by omega)],sbd];obtain ⟨l,e,hl⟩:=A1n (F:=F) (t:=t) hF hs hg ht F g.High.toNat [] 0 (by omega) (by omega) (by omega) (by simp;omega);exact ⟨l,e,by rw [hl];simp;omega⟩
end Go.Proofs.YtkbjbnkkfifbmaaGreat
namespace Go.Proofs.YtkbjbnkkfifbmaaGreat
open Go Go.RowKit Go.Eng
set_option maxRecDepth 10000
set_option linter.unusedVariables false
set_option linter.unusedSimpArgs false
theorem Pk {a b f:Int} (hb:0<b) (h1:f*b≤a) (h2:a<f*b+b):a/b=f:=by
 have g1:=Int.ediv_mul_le a (show b≠0 by omega);have g2:a<a/b*b+b:=by have:=Int.lt_ediv_add_one_mul_self a hb;rw [Int.add_mul] at this;omega
 rcases Int.lt_trichotomy (a/b) f with h|h|h
 ·have:=Int.mul_le_mul_of_nonneg_right (show a/b+1≤f by omega) (show 0≤b by omega);rw [Int.add_mul] at this;omega
 ·exact h
 ·have:=Int.mul_le_mul_of_nonneg_right (show f+1≤a/b by omega) (show 0≤b by omega);rw [Int.add_mul] at this;omega
theorem Ld (a b:Int) (hb:0<b):(0≤a∧a.tdiv b=a/b)∨(a<0∧a.tdiv b=-(-a/b)):=by
 rcases Int.lt_or_le a 0 with h|h
 ·right;refine ⟨h,?_⟩;have e:a=- -a:=by omega
  have:(- -a).tdiv b=-((-a).tdiv b):=Int.neg_tdiv (-a) b;rw [e,this,Int.tdiv_eq_ediv_of_nonneg (by omega),Int.neg_neg]
 ·exact .inl ⟨h,Int.tdiv_eq_ediv_of_nonneg h⟩
theorem T2 {a b A:Int} (hb:0<b) (ha:-A≤a∧a≤A):-A≤a.tdiv b∧a.tdiv b≤A:=by
 rcases Ld a b hb with ⟨h,e⟩|⟨h,e⟩
 ·rw [e];have:=Int.ediv_le_self b h;have:=Int.ediv_nonneg h (show 0≤b by omega);omega
 ·rw [e];have:=Int.ediv_le_self b (show 0≤-a by omega);have:=Int.ediv_nonneg (show 0≤-a by omega) (show 0≤b by omega);omega
theorem Ev (a:Int) {b:Int} (hb:0<b):a/b*b≤a∧a<a/b*b+b:=by
 refine ⟨Int.ediv_mul_le a (by omega),?_⟩;have:=Int.lt_ediv_add_one_mul_self a hb;rw [Int.add_mul] at this;omega
theorem Tp {F:Nat} {a b:Int} (hb:0<b) (ha:-1000000000000000000≤a∧a≤1000000000000000000):Jq F a b=some (a/b):=by
 have hq:=T2 hb ha;have hm:-2000000000000000000≤a.tdiv b*b∧a.tdiv b*b≤2000000000000000000:=by
  rcases Ld a b hb with ⟨h,e⟩|⟨h,e⟩
  ·have:=Ev a hb;have h0:0≤a/b*b:=Int.mul_nonneg (Int.ediv_nonneg h (by omega)) (by omega);rw [e];omega
  ·have:=Ev (-a) hb;have h0:0≤-a/b*b:=Int.mul_nonneg (Int.ediv_nonneg (by omega) (by omega)) (by omega);rw [e,Int.neg_mul];omega
 unfold Jq Mx;rw [if_neg (by omega),ckb (by omega),ckb (by omega)]
 by_cases hc:a.tdiv b*b>a
 ·rw [Ce (dT hc),ckb (by omega)];rcases Ld a b hb with ⟨h,e⟩|⟨h,e⟩
  ·have:=Ev a hb;rw [e] at hc;omega
  ·have hf:=Ev (-a) hb;rw [Pk (f:=a.tdiv b-1) hb]
   ·rw [e,Int.sub_mul,Int.neg_mul];omega
   ·rw [Int.sub_mul];omega
 ·rw [B3 (dF hc),Pk (f:=a.tdiv b) hb]
  ·omega
  ·rcases Ld a b hb with ⟨h,e⟩|⟨h,e⟩
   ·have:=Ev a hb;rw [e];omega
   ·have:=Ev (-a) hb;rw [e,Int.neg_mul] at hc ⊢;omega
theorem A09 {F:Nat} {a b:Int} (hb:0<b) (ha:-1000000000000000000≤a∧a≤1000000000000000000):Mg F a b=some (-(-a/b)):=by
 have hq:=T2 hb ha;have hm:-2000000000000000000≤a.tdiv b*b∧a.tdiv b*b≤2000000000000000000:=by
  rcases Ld a b hb with ⟨h,e⟩|⟨h,e⟩
  ·have:=Ev a hb;have h0:0≤a/b*b:=Int.mul_nonneg (Int.ediv_nonneg h (by omega)) (by omega);rw [e];omega
  ·have:=Ev (-a) hb;have h0:0≤-a/b*b:=Int.mul_nonneg (Int.ediv_nonneg (by omega) (by omega)) (by omega);rw [e,Int.neg_mul];omega
 unfold Mg Mx;rw [if_neg (by omega),ckb (by omega),ckb (by omega)]
 by_cases hc:a.tdiv b*b<a
 ·rw [Ce (dT hc),ckb (by omega)];rcases Ld a b hb with ⟨h,e⟩|⟨h,e⟩
  ·have hf:=Ev a hb;rw [Pk (f:=-(a.tdiv b+1)) hb]
   ·rw [Int.neg_neg]
   ·rw [e,Int.neg_mul,Int.add_mul];omega
   ·rw [Int.neg_mul,Int.add_mul];omega
  ·have:=Ev (-a) hb;rw [e,Int.neg_mul] at hc;omega
 ·rw [B3 (dF hc),Pk (f:=-(a.tdiv b)) hb]
  ·rw [Int.neg_neg]
  ·rw [Int.neg_mul];omega
  ·rcases Ld a b hb with ⟨h,e⟩|⟨h,e⟩
   ·have:=Ev a hb;rw [e] at hc ⊢;rw [Int.neg_mul];omega
   ·have:=Ev (-a) hb;rw [e,Int.neg_neg];omega
def gLo (L t:Int):Int:=L*(262144-t*t)/(2*(262144+t*t))
def gHi (L t:Int):Int:=-(-(L*(262144-t*t))/(2*(262144+t*t)))
def loZ (L t e:Int):Int:=L*(1024*t)/(2*(262144+t*t))+gLo L t*gLo L t/(2*e)
def hiZ (L t e:Int):Int:=-(-(L*(1024*t))/(2*(262144+t*t))) + -(-(gHi L t*gHi L t)/(2*e))
theorem Ko {a b A:Int} (hb:0<b) (hA:0≤A) (ha:-(A*b)≤a∧a≤A*b):-A≤a/b∧a/b≤A:=by
 refine ⟨?_,Int.ediv_le_of_le_mul hb ha.2⟩;exact (Int.le_ediv_iff_mul_le hb).2 (by rw [Int.neg_mul];exact ha.1)
theorem gB {L t:Int} (hL:0≤L∧L≤1000000) (ht:-264≤t∧t≤264):(-1000000≤gLo L t∧gLo L t≤1000000)∧(-1000000≤gHi L t∧gHi L t≤1000000)∧(0≤L*(262144-t*t)∧L*(262144-t*t)≤1000000*262144)∧(-(1000000*270336)≤L*(1024*t)∧L*(1024*t)≤1000000*270336):=by
 have h1:=sqB ht;have h2:=L6 (x:=L) (y:=262144-t*t) (A:=1000000) (B:=262144) hL (by omega);have h3:=U1 (x:=L) (y:=1024*t) (A:=1000000) (B:=270336) (by omega) (by omega);refine ⟨Ko (by omega) (by omega) (by omega),?_,h2,h3⟩;have:=Ko (a:=-(L*(262144-t*t))) (b:=2*(262144+t*t)) (A:=1000000) (by omega) (by omega) (by omega);unfold gHi;omega
theorem V6 {F:Nat} {s:api_Site} {t g:Int} (hs:1≤s.Step∧s.Step≤2000) (hg:0≤g∧g≤200) (ht:-264≤t∧t≤264):Fk F s t g=some (gLo ((2*g+1)*s.Step) t):=by
 have h1:=sqB ht;have h0:=L6 (x:=2*g+1) (y:=s.Step) (A:=401) (B:=2000) (by omega) (by omega);have h2:=gB (L:=(2*g+1)*s.Step) (t:=t) (by omega) ht;unfold Fk;rw [Lb ht,sbd];unfold slt;dsimp only;rw [ckb (by omega),ckb (by omega),ckb (by omega),ckb (by omega),ckb (by omega),Tp (by omega) (by omega)];rfl
theorem V7 {F:Nat} {s:api_Site} {t g:Int} (hs:1≤s.Step∧s.Step≤2000) (hg:0≤g∧g≤200) (ht:-264≤t∧t≤264):Fl F s t g=some (gHi ((2*g+1)*s.Step) t):=by
 have h1:=sqB ht;have h0:=L6 (x:=2*g+1) (y:=s.Step) (A:=401) (B:=2000) (by omega) (by omega);have h2:=gB (L:=(2*g+1)*s.Step) (t:=t) (by omega) ht;unfold Fl;rw [Lb ht,sbd];unfold slt;dsimp only;rw [ckb (by omega),ckb (by omega),ckb (by omega),ckb (by omega),ckb (by omega),A09 (by omega) (by omega)];rfl
theorem Wh {F:Nat} {s:api_Site} {t g e:Int} (hs:1≤s.Step∧s.Step≤2000) (hz:0≤s.Z∧s.Z≤20000) (hg:0≤g∧g≤200) (ht:-264≤t∧t≤264) (he:1000000≤e∧e≤100000000):Gh F s t g e=some (s.Z+loZ ((2*g+1)*s.Step) t e):=by
 have h1:=sqB ht;have h0:=L6 (x:=2*g+1) (y:=s.Step) (A:=401) (B:=2000) (by omega) (by omega);obtain ⟨g1,_,_,g4⟩:=gB (L:=(2*g+1)*s.Step) (t:=t) (by omega) ht;have h2:=U1 (x:=gLo ((2*g+1)*s.Step) t) (y:=gLo ((2*g+1)*s.Step) t) (A:=1000000) (B:=1000000) g1 g1;have b1:=Ko (a:=(2*g+1)*s.Step*(1024*t)) (b:=2*(262144+t*t)) (A:=1000000) (by omega) (by omega) (by omega);have b2:=Ko (a:=gLo ((2*g+1)*s.Step) t*gLo ((2*g+1)*s.Step) t) (b:=2*e) (A:=1000000) (by omega) (by omega) (by omega);unfold Gh;rw [Lb ht,sbd,V6 hs hg ht,sbd];unfold slt;dsimp only;rw [ckb (by omega),ckb (by omega),ckb (by omega),ckb (by omega),ckb (by omega),ckb (by omega),ckb (by omega),Tp (by omega) (by omega),sbd,ckb (by omega),Tp (by omega) (by omega),sbd,ckb (by omega),Int.add_assoc];rfl
theorem Wi {F:Nat} {s:api_Site} {t g e:Int} (hs:1≤s.Step∧s.Step≤2000) (hz:0≤s.Z∧s.Z≤20000) (hg:0≤g∧g≤200) (ht:-264≤t∧t≤264) (he:1000000≤e∧e≤100000000):Gi F s t g e=some (s.Z+hiZ ((2*g+1)*s.Step) t e):=by
 have h1:=sqB ht;have h0:=L6 (x:=2*g+1) (y:=s.Step) (A:=401) (B:=2000) (by omega) (by omega);obtain ⟨_,g1,_,g4⟩:=gB (L:=(2*g+1)*s.Step) (t:=t) (by omega) ht;have h2:=U1 (x:=gHi ((2*g+1)*s.Step) t) (y:=gHi ((2*g+1)*s.Step) t) (A:=1000000) (B:=1000000) g1 g1;have b1:=Ko (a:=-((2*g+1)*s.Step*(1024*t))) (b:=2*(262144+t*t)) (A:=1000000) (by omega) (by omega) (by omega);have b2:=Ko (a:=-(gHi ((2*g+1)*s.Step) t*gHi ((2*g+1)*s.Step) t)) (b:=2*e) (A:=1000000) (by omega) (by omega) (by omega);unfold Gi;rw [Lb ht,sbd,V7 hs hg ht,sbd];unfold slt;dsimp only;rw [ckb (by omega),ckb (by omega),ckb (by omega),ckb (by omega),ckb (by omega),ckb (by omega),ckb (by omega),A09 (by omega) (by omega),sbd,ckb (by omega),A09 (by omega) (by omega),sbd,ckb (by omega),Int.add_assoc];rfl
def VE (e:api_Span):Prop:=1000000≤e.Lo∧e.Lo≤e.Hi∧e.Hi≤100000000
def Yj (s:api_Site) (t:Int) (e:api_Span) (g:Int):api_Span:=⟨s.Z+loZ ((2*g+1)*s.Step) (t-s.Width) e.Hi,s.Z+hiZ ((2*g+1)*s.Step) (t+s.Width) e.Lo⟩
theorem A0f {F:Nat} {s:api_Site} {t g:Int} {e:api_Span} (hn:beam_CheckSite F s=some 0) (hs:VS s) (he:VE e) (ht:0≤t∧t≤256) (hg:0≤g∧g<s.Gates):Lu F s t e g=some (Yj s t e g,0):=by
 obtain ⟨e1,e2,e3⟩:=he;have h1:=hs.gates;have h2:=hs.step;have h3:=hs.width;have hv:F9 e=true:=by unfold F9;rw [dT e1,dT e2,dT e3];rfl
 unfold Lu;rw [hn,sbd,Eo ht,hv];simp only [bne_self_eq_false,cond_false,Bool.not_true,Bool.and_true,beq_self_eq_true];rw [gdT rfl,ckb (by omega),Eo (by omega)];simp only [cond_false,Bool.not_true];rw [ckb (by omega),ckb (by omega),Wh (by omega) hs.z (by omega) (by omega) (by omega),sbd,Wi (by omega) hs.z (by omega) (by omega) (by omega),sbd];rfl
end Go.Proofs.YtkbjbnkkfifbmaaGreat
namespace Go.Proofs.YtkbjbnkkfifbmaaGreat
open Go Go.RowKit Go.Eng
set_option maxRecDepth 10000
set_option linter.unusedVariables false
set_option linter.unusedSimpArgs false
section
variable {κ ν:Type} [DecidableEq κ]
theorem Qv (B:List (κ×ν)) (k x:κ) (v:ν):lkM (upM B k v) x=if x=k then some v else lkM B x:=by
 induction B with
 | nil=>rfl
 | cons p B ih =>
  unfold upM
  by_cases h:k=p.1
  ·rw [if_pos h];unfold lkM;subst h
   by_cases hx:x=p.1
   ·rw [if_pos hx,if_pos hx]
   ·rw [if_neg hx,if_neg hx,if_neg hx]
  ·rw [if_neg h];unfold lkM
   by_cases hx:x=p.1
   ·rw [if_pos hx,if_neg (by rw [hx];exact fun e=>h e.symm),if_pos hx]
   ·rw [if_neg hx,ih]
    by_cases hk:x=k
    ·rw [if_pos hk,if_pos hk]
    ·rw [if_neg hk,if_neg hk,if_neg hx]
theorem X9 (B:List (κ×ν)) (k:κ) (v:ν):lkM (upM B k v) k=some v:=by rw [Qv,if_pos rfl]
theorem Zf {B:List (κ×ν)} {k:κ} {v:ν} (h:lkM B k=some v):(k,v)∈B:=by
 induction B with
 | nil=>cases h
 | cons p B ih =>
  unfold lkM at h
  by_cases hk:k=p.1
  ·rw [if_pos hk] at h;cases h;subst hk;exact .head _
  ·rw [if_neg hk] at h;exact .tail _ (ih h)
theorem W5 {B:List (κ×ν)} {k:κ}:(∃v,lkM B k=some v)↔k∈B.map (·.1):=by
 induction B with
 | nil=>simp [lkM]
 | cons p B ih =>
  unfold lkM
  by_cases hk:k=p.1
  ·simp [hk]
  ·rw [if_neg hk,ih];simp [hk]
theorem A3e {B:List (κ×ν)} {k:κ} {v:ν} {p:κ×ν} (h:p∈upM B k v):p=(k,v)∨p∈B:=by
 induction B with
 | nil=>simp [upM] at h;exact .inl h
 | cons q B ih =>
  unfold upM at h
  by_cases hk:k=q.1
  ·rw [if_pos hk] at h;rcases List.mem_cons.1 h with h|h
   ·exact .inl h
   ·exact .inr (.tail _ h)
  ·rw [if_neg hk] at h;rcases List.mem_cons.1 h with h|h
   ·exact .inr (h▸.head _)
   ·rcases ih h with h|h
    ·exact .inl h
    ·exact .inr (.tail _ h)
theorem A1h {B:List (κ×ν)} {k x:κ} {v:ν}:x∈(upM B k v).map (·.1)↔x=k∨x∈B.map (·.1):=by
 rw [←W5,←W5,Qv]
 by_cases h:x=k
 ·simp [h]
 ·simp [h]
theorem A08 {B:List (κ×ν)} {k:κ} {v:ν} (hn:(B.map (·.1)).Nodup):((upM B k v).map (·.1)).Nodup:=by
 induction B with
 | nil=>simp [upM]
 | cons q B ih =>
  rw [List.map_cons,List.nodup_cons] at hn;unfold upM
  by_cases hk:k=q.1
  ·rw [if_pos hk,List.map_cons,List.nodup_cons];subst hk;exact hn
  ·rw [if_neg hk,List.map_cons,List.nodup_cons];exact ⟨fun h=>(A1h.1 h).elim (fun e=>hk e.symm) hn.1,ih hn.2⟩
end
def tot (B:List (mosaic_Key×List (List api_Span))):Nat:=(B.map fun p=>p.2.length).sum
def kl (B:List (mosaic_Key×List (List api_Span))) (k:mosaic_Key):List (List api_Span):=(lkM B k).getD []
theorem A3d (B:List (mosaic_Key×List (List api_Span))) (k:mosaic_Key) (l:List (List api_Span)):tot (upM B k l)+(kl B k).length=tot B+l.length:=by
 induction B with
 | nil=>simp [tot,upM,kl,lkM]
 | cons p B ih =>
  unfold upM kl lkM
  by_cases h:k=p.1
  ·rw [if_pos h,if_pos h];simp [tot];omega
  ·rw [if_neg h,if_neg h];have e1:∀C,tot (p::C)=p.2.length+tot C:=fun C=>by simp [tot]
   rw [e1,e1];have:((lkM B k).getD []).length=(kl B k).length:=rfl;omega
theorem Zd (B:List (mosaic_Key×List (List api_Span))) (k:mosaic_Key):(kl B k).length≤tot B:=by
 induction B with
 | nil=>simp [kl,lkM]
 | cons p B ih =>
  have e1:tot (p::B)=p.2.length+tot B:=by simp [tot]
  unfold kl lkM
  by_cases h:k=p.1
  ·rw [if_pos h,e1];simp
  ·rw [if_neg h,e1];have:((lkM B k).getD []).length=(kl B k).length:=rfl;omega
theorem W0 {B:List (mosaic_Key×List (List api_Span))} (h:∀p∈B,p.2≠[]):B.length≤tot B:=by
 induction B with
 | nil=>simp [tot]
 | cons p B ih =>
  have e1:tot (p::B)=p.2.length+tot B:=by simp [tot]
  have:=List.length_pos_iff.2 (h p (.head _));have:=ih fun q hq=>h q (.tail _ hq);rw [e1,List.length_cons];omega
def c3 (a b:Int):Int:=if a<b then -1 else if b<a then 1 else 0
def Jr (x y:api_Span):Int:=if c3 x.Lo y.Lo≠0 then c3 x.Lo y.Lo else c3 x.Hi y.Hi
def Eg:List api_Span→List api_Span→Int
 | [],[]=>0
 | [],_::_=>-1
 | _::_,[]=>1
 | x::a,y::b=>if Jr x y≠0 then Jr x y else Eg a b
theorem Jo (a b:Int):Ae a b=c3 a b:=by
 unfold Ae Cr c3;simp only [bne_self_eq_false,cond_false]
 by_cases h1:a<b
 ·rw [dT h1,if_pos h1];rfl
 ·by_cases h2:b<a
  ·rw [dF h1,if_neg h1,if_pos h2,dT h2];rfl
  ·rw [dF h1,if_neg h1,if_neg h2,dF h2];rfl
def orL:List Int→Int
 | []=>0
 | x::l=>if x≠0 then x else orL l
theorem A32 (l:List Int):∀(n i:Nat),i≤l.length→l.length-i<n→l.length<1000000→Gn l n (i:Int)=some (orL (l.drop i)):=by
 intro n
 induction n with
 | zero=>intro i _ h;omega
 | succ n ih =>
  intro i hi hn hl;rw [Gn];unfold K0
  by_cases hc:i<l.length
  ·rw [Ce (dT (by omega)),Cv i l[i] rfl (List.getElem?_eq_getElem hc),List.drop_eq_getElem_cons hc];unfold orL
   by_cases h:l[i]=0
   ·rw [B3 (by simpa using h),if_neg (by simpa using h),ckb (by omega)];exact ih (i+1) (by omega) (by omega) hl
   ·rw [Ce (by simpa using h),if_pos h]
  ·rw [B3 (dF (by omega)),List.drop_eq_nil_of_le (by omega)];rfl
theorem A1s {F:Nat} (l:List Int) (h:l.length<F) (h2:l.length<1000000):Ku F l=some (orL l):=by
 have:=A32 l F 0 (by omega) (by omega) h2;rw [List.drop_zero] at this;exact this
theorem A4y (a b:Int):orL [a,b]=if a≠0 then a else b:=by
 show (if a≠0 then a else if b≠0 then b else 0)=_
 split
 ·rfl
 ·split<;>omega
theorem Un {F:Nat} (hF:100≤F) (x y:api_Span):Fu F x y=some (Jr x y):=by
 unfold Fu;rw [Jo,Jo,A1s _ (by simp;omega) (by simp),sbd,A4y];rfl
theorem A0k {F:Nat} (hF:100≤F) (a b:List api_Span) (ha:a.length<1000000):∀(n i:Nat),i≤a.length→a.length-i<n →
  Ad F a b n (i:Int)=some (if i≤b.length then Eg (a.drop i) (b.drop i) else if i<a.length then 1 else 0):=by
 intro n
 induction n with
 | zero=>intro i _ h;omega
 | succ n ih =>
  intro i hi hn;rw [Ad];unfold Al
  by_cases hc:i<a.length
  ·rw [Ce (dT (by omega)),Cv i a[i] rfl (List.getElem?_eq_getElem hc)]
   by_cases hb:i<b.length
   ·rw [B3 (dF (by omega)),Cv i b[i] rfl (List.getElem?_eq_getElem hb),Un hF,sbd,if_pos (by omega),List.drop_eq_getElem_cons hc,List.drop_eq_getElem_cons hb];unfold Eg
    by_cases h:Jr a[i] b[i]=0
    ·rw [B3 (by simpa using h),if_neg (by simpa using h),ckb (by omega)];have:=ih (i+1) (by omega) (by omega);rw [if_pos (by omega)] at this;exact this
    ·rw [Ce (by simpa using h),if_pos h]
   ·rw [Ce (dT (by omega))]
    by_cases hb2:i≤b.length
    ·rw [if_pos hb2,List.drop_eq_nil_of_le (show b.length≤i by omega),List.drop_eq_getElem_cons hc];rfl
    ·rw [if_neg hb2,if_pos hc]
  ·rw [B3 (dF (by omega))];unfold Am;have e:a.drop i=[]:=List.drop_eq_nil_of_le (by omega)
   by_cases hb:a.length<b.length
   ·rw [Ce (dT (by omega)),if_pos (by omega),e,List.drop_eq_getElem_cons (l:=b) (by omega)];rfl
   ·rw [B3 (dF (by omega))]
    by_cases hb2:i≤b.length
    ·rw [if_pos hb2,e,List.drop_eq_nil_of_le (show b.length≤i by omega)];rfl
    ·rw [if_neg hb2,if_neg hc]
theorem Rg {F:Nat} (hF:100≤F) (a b:List api_Span) (ha:a.length<F) (h2:a.length<1000000):Ft F a b=some (Eg a b):=by
 unfold Ft Ap;have:=A0k hF a b h2 F 0 (by omega) (by omega);rw [if_pos (by omega),List.drop_zero,List.drop_zero] at this;have e:Ad F a b F 0=some (Eg a b):=this;rw [e];rfl
theorem A4m {x:Int} (h:0≤x∧x≤9000000000000000000):IntKind.u64.wrap x=x:=by
 have:=h.1;have:=h.2;simp only [IntKind.wrap,IntKind.signed,IntKind.bits];simp;omega
theorem Wk {F:Nat} (hF:100≤F) (l:List (List api_Span)) (v:List api_Span) (hl:l.length<1000000) (hv:∀x∈l,x.length<F∧x.length<1000000):∀(n i j:Nat),i≤j→j≤l.length→j-i<n →
  ∃(r:Nat) (b:Bool),Ag F l v n (j:Int) (i:Int)=some ((r:Int),b)∧r≤l.length∧i≤r∧r≤j∧(b=true↔∃x,l[r]? = some x∧Eg x v=0)∧(r=i∨∃x,l[r-1]? = some x∧Eg x v<0)∧(r=j∨∃x,l[r]? = some x∧¬Eg x v<0):=by
 intro n
 induction n with
 | zero=>intro i j _ _ h;omega
 | succ n ih =>
  intro i j hij hj hn;rw [Ag];unfold Aq
  by_cases hc:i<j
  ·have hm:(i+j)/2<l.length:=by omega
   rw [Ce (dT (by omega)),ckb (by omega),A4m (by omega),Int.fdiv_eq_ediv_of_nonneg _ (by omega),ckb (by omega),Cv ((i+j)/2) l[(i+j)/2] (by omega) (List.getElem?_eq_getElem hm)];obtain ⟨h1,h2⟩:=hv _ (List.getElem_mem hm);rw [Rg hF _ _ h1 h2,sbd]
   by_cases hlt:Eg l[(i+j)/2] v<0
   ·rw [Ce (dT hlt),ckb (by omega),show ((i:Int)+(j:Int))/2+1=(((i+j)/2+1:Nat):Int) by omega];obtain ⟨r,b,e,r1,r2,r3,r4,r5,r6⟩:=ih ((i+j)/2+1) j (by omega) hj (by omega);refine ⟨r,b,e,r1,by omega,r3,r4,.inr ?_,r6⟩;rcases r5 with h|h
    ·exact ⟨_,by rw [h,Nat.add_sub_cancel];exact List.getElem?_eq_getElem hm,hlt⟩
    ·exact h
   ·rw [B3 (dF hlt),show ((i:Int)+(j:Int))/2=(((i+j)/2:Nat):Int) by omega];obtain ⟨r,b,e,r1,r2,r3,r4,r5,r6⟩:=ih i ((i+j)/2) (by omega) (by omega) (by omega);refine ⟨r,b,e,r1,r2,by omega,r4,r5,.inr ?_⟩;rcases r6 with h|h
    ·exact ⟨_,by rw [h];exact List.getElem?_eq_getElem hm,hlt⟩
    ·exact h
  ·rw [B3 (dF (by omega))];unfold Ar;have:i=j:=by omega
   subst this
   by_cases hi:i<l.length
   ·rw [Ce (dT (by omega)),Cv i l[i] rfl (List.getElem?_eq_getElem hi)];obtain ⟨h1,h2⟩:=hv _ (List.getElem_mem hi);rw [Rg hF _ _ h1 h2,sbd];refine ⟨i,_,rfl,hj,Nat.le_refl _,Nat.le_refl _,?_,.inl rfl,.inl rfl⟩;rw [List.getElem?_eq_getElem hi];simp
   ·rw [B3 (dF (by omega))];refine ⟨i,_,rfl,hj,Nat.le_refl _,Nat.le_refl _,?_,.inl rfl,.inl rfl⟩;rw [List.getElem?_eq_none (by omega)];simp
theorem Zx {F:Nat} (hF:100≤F) (N:mosaic_Node) (m:mosaic_Message) (hl:(kl N.kept m.Key).length<F∧(kl N.kept m.Key).length<1000000) (hv:∀x∈kl N.kept m.Key,x.length<F∧x.length<1000000) :
  ∃(r:Nat) (b:Bool),Bw F N m=some ((r:Int),b)∧r≤(kl N.kept m.Key).length∧(b=true↔∃x,(kl N.kept m.Key)[r]? = some x∧Eg x m.Vals=0)∧(r=0∨∃x,(kl N.kept m.Key)[r-1]? = some x∧Eg x m.Vals<0)∧(r=(kl N.kept m.Key).length∨∃x,(kl N.kept m.Key)[r]? = some x∧¬Eg x m.Vals<0):=by
 obtain ⟨r,b,e,r1,_,_,r4,r5,r6⟩:=Wk hF (kl N.kept m.Key) m.Vals hl.2 hv F 0 (kl N.kept m.Key).length (by omega) (Nat.le_refl _) (by omega);refine ⟨r,b,?_,r1,r4,r5,r6⟩;unfold Bw Av;have e':Ag F ((lkM N.kept m.Key).getD []) m.Vals F (((lkM N.kept m.Key).getD []).length:Int) 0=some ((r:Int),b):=e;rw [e'];rfl
end Go.Proofs.YtkbjbnkkfifbmaaGreat
namespace Go.Proofs.YtkbjbnkkfifbmaaGreat
open Go Go.RowKit Go.Eng
set_option maxRecDepth 10000
set_option linter.unusedVariables false
set_option linter.unusedSimpArgs false
def radM (s:mosaic_Spec):List (ByteArray×mosaic_Radar):=s.Radars.foldl (fun B r=>upM B r.Site.Name r) []
def pix (s:mosaic_Spec):Nat:=(s.Grid.Wide*s.Grid.High).toNat
structure GS (F:Nat) (s:mosaic_Spec):Prop where
 g:VG s.Grid
 e:VE s.Earth
 age:1≤s.Age∧s.Age≤86400
 small:pix s≤500
 r:∀n x,lkM (radM s) n=some x→VS x.Site∧beam_CheckSite F x.Site=some 0∧(-3600≤x.Offset.Lo∧x.Offset.Lo≤x.Offset.Hi∧x.Offset.Hi≤3600)∧n≠ByteArray.empty∧x.Site.Name=n
def okK (s:mosaic_Spec) (k:mosaic_Key):Prop:=(∃r,lkM (radM s) k.Name=some r)∧(0≤k.Tilt∧k.Tilt≤256)∧(0≤k.Time∧k.Time≤4294967296)
structure okM (s:mosaic_Spec) (m:mosaic_Message):Prop where
 key:okK s m.Key
 len:m.Vals.length=pix s
 vals:∀v∈m.Vals,0≤v.Lo∧v.Lo≤v.Hi∧v.Hi≤1000000
def Mz (F:Nat) (s:mosaic_Spec) (w:mosaic_where):List api_Span :=
 (((Jp F ((lkM (radM s) w.name).getD default).Site w.tilt s.Grid).getD ([],0)).1).map fun v=>if 0≤v then Yj ((lkM (radM s) w.name).getD default).Site w.tilt s.Earth (v.tmod ((lkM (radM s) w.name).getD default).Site.Gates) else ⟨1,0⟩
def LV (F:Nat) (s:mosaic_Spec) (L:List (mosaic_where×List api_Span)):Prop:=∀w l,lkM L w=some l→l=Mz F s w
structure NI (F:Nat) (s:mosaic_Spec) (N:mosaic_Node):Prop where
 spec:N.spec=s
 radars:N.radars=radM s
 nd:(N.kept.map (·.1)).Nodup
 ok:∀p∈N.kept,okK s p.1∧p.2≠[]∧∀v∈p.2,v.length=pix s
 count:N.count=(tot N.kept:Int)
 looks:LV F s N.looks
def N5 (l:List (List api_Span)) (r:Nat) (v:List api_Span):List (List api_Span):=l.take r++[v]++l.drop r
def Qj (N:mosaic_Node) (m:mosaic_Message) (r:Nat):mosaic_Node:=⟨N.spec,N.radars,N.horizon,upM N.kept m.Key (N5 (kl N.kept m.Key) r m.Vals),N.count+1,N.looks⟩
theorem Sq {l:List (List api_Span)} {r:Nat} {v:List api_Span} (h:r≤l.length):(N5 l r v).length=l.length+1:=by unfold N5;simp;omega
theorem Q8 {l:List (List api_Span)} {r:Nat} {v x:List api_Span}:x∈N5 l r v↔x=v∨x∈l:=by
 unfold N5;rw [List.mem_append,List.mem_append,List.mem_singleton];constructor
 ·rintro ((h|h)|h)
  ·exact .inr (List.mem_of_mem_take h)
  ·exact .inl h
  ·exact .inr (List.mem_of_mem_drop h)
 ·rintro (h|h)
  ·exact .inl (.inr h)
  ·rw [←List.take_append_drop r l] at h;rcases List.mem_append.1 h with h|h
   ·exact .inl (.inl h)
   ·exact .inr h
theorem NI.kl_ok {F:Nat} {s:mosaic_Spec} {N:mosaic_Node} (h:NI F s N) (k:mosaic_Key):∀v∈kl N.kept k,v.length=pix s:=by
 intro v hv;unfold kl at hv
 cases e:lkM N.kept k with
 | none=>rw [e] at hv;cases hv
 | some l=>rw [e] at hv;exact (h.ok _ (Zf e)).2.2 v hv
theorem NI.put {F:Nat} {s:mosaic_Spec} {N:mosaic_Node} {m:mosaic_Message} {r:Nat} (h:NI F s N) (hm:okM s m) (hr:r≤(kl N.kept m.Key).length):NI F s (Qj N m r):=by
 refine ⟨h.spec,h.radars,A08 h.nd,?_,?_,h.looks⟩
 ·intro p hp;rcases A3e hp with rfl|hp
  ·refine ⟨hm.key,fun e=>?_,fun v hv=>?_⟩
   ·have:=Sq (v:=m.Vals) hr;have e':N5 (kl N.kept m.Key) r m.Vals=[]:=e;rw [e'] at this;simp at this
   ·rcases Q8.1 hv with rfl|hv
    ·exact hm.len
    ·exact h.kl_ok _ v hv
  ·exact h.ok p hp
 ·have h1:=A3d N.kept m.Key (N5 (kl N.kept m.Key) r m.Vals);rw [Sq hr] at h1;show N.count+1=_;rw [h.count];show _=((tot (upM N.kept m.Key (N5 (kl N.kept m.Key) r m.Vals)):Nat):Int);omega
theorem Kq {n a b:Int} (h:a≤n∧n≤b):Bt n a b=true:=by unfold Bt;rw [dT h.1,dT h.2];rfl
theorem Rr {v:api_Span} {a b:Int} (h:a≤v.Lo∧v.Lo≤v.Hi∧v.Hi≤b):Ct v a b=true:=by unfold Ct;rw [dT h.1,dT h.2.1,dT h.2.2];rfl
theorem Yb {m:mosaic_Message} (hl:m.Vals.length<1000000) (hv:∀v∈m.Vals,0≤v.Lo∧v.Lo≤v.Hi∧v.Hi≤1000000):∀(n i:Nat),i≤m.Vals.length→m.Vals.length-i<n→Cq m n (i:Int)=some 0:=by
 intro n
 induction n with
 | zero=>intro i _ h;omega
 | succ n ih =>
  intro i hi hn;rw [Cq];unfold Et
  by_cases hc:i<m.Vals.length
  ·rw [Ce (dT (by omega)),Cv i m.Vals[i] rfl (List.getElem?_eq_getElem hc),Rr (hv _ (List.getElem_mem hc)),B3 (c:=!true) rfl,ckb (by omega)];exact ih (i+1) (by omega) (by omega)
  ·rw [B3 (dF (by omega))];rfl
theorem Zv {F:Nat} {s:mosaic_Spec} (h:GS F s):s.Grid.Wide*s.Grid.High=(pix s:Int)∧1≤pix s:=by
 have h1:=h.g.wide;have h2:=h.g.high;have h3:=L6 (x:=s.Grid.Wide) (y:=s.Grid.High) (A:=64) (B:=64) (by omega) (by omega);have h4:1*1≤s.Grid.Wide*s.Grid.High:=Int.mul_le_mul h1.1 h2.1 (by omega) (by omega);unfold pix;omega
theorem A0d {F:Nat} {s:mosaic_Spec} {N:mosaic_Node} {m:mosaic_Message} (hF:1000≤F) (hs:GS F s) (hN:NI F s N) (hm:okM s m):Ek F N m=some 0:=by
 obtain ⟨r,hr⟩:=hm.key.1;have h1:=Zv hs;have h2:=hs.small;unfold Ek;rw [hN.radars,hr,B3 (c:=!(some r).isSome) rfl,Kq hm.key.2.1,Kq hm.key.2.2,B3 (c:=bif !true then true else !true) rfl,hN.spec,ckb (by omega),B3 (by rw [hm.len,h1.1];simp)];exact Yb (by rw [hm.len];omega) hm.vals F 0 (by omega) (by rw [hm.len];omega)
theorem We {F:Nat} {s:mosaic_Spec} {N:mosaic_Node} {m:mosaic_Message} {r:Nat} {b:Bool} (hF:1000≤F) (hs:GS F s) (hN:NI F s N) (hm:okM s m) (hc:N.count<1000000) (hp:Bw F N m=some ((r:Int),b)) (hr:r≤(kl N.kept m.Key).length):Dy F N m=some (Qj N m r):=by
 have h2:=hs.small;have h3:=Zd N.kept m.Key;have h4:=hN.count;unfold Dy;rw [hp,sbd];unfold C1 B2;rw [show (lkM N.kept m.Key).getD []=kl N.kept m.Key from rfl,Lt (by simp;omega) (by decide),List.nil_append,sbd,Lt (by rw [hm.len];simp;omega) (by decide),List.nil_append,sbd];unfold Jk;rw [if_pos ⟨by omega,by omega,rfl,by omega⟩,sbd,ckb (by omega)];rfl
end Go.Proofs.YtkbjbnkkfifbmaaGreat
namespace Go.Proofs.YtkbjbnkkfifbmaaGreat
open Go Go.RowKit Go.Eng
set_option maxRecDepth 10000
set_option linter.unusedVariables false
set_option linter.unusedSimpArgs false
def ksN (N:mosaic_Node):List mosaic_Key:=Ck (N.kept.map (·.1))
def Rx (N:mosaic_Node):List mosaic_Message:=(ksN N).flatMap fun k=>(kl N.kept k).map (mosaic_Message.mk k)
theorem Gz (N:mosaic_Node):(ksN N).length=N.kept.length∧(ksN N).Perm (N.kept.map (·.1))∧(ksN N).Pairwise (fun x y=>¬KLt y x):=by
 obtain ⟨h1,h2,h3⟩:=Ka Fm Q9 (N.kept.map (·.1));refine ⟨by unfold ksN Ck;rw [h1];simp,h2,h3.imp ?_⟩;intro x y h hlt;rw [(Pt y x).2 hlt] at h;cases h
theorem Tz {N:mosaic_Node} {k:mosaic_Key}:k∈ksN N↔∃l,lkM N.kept k=some l:=by
 rw [(Gz N).2.1.mem_iff,W5]
theorem NI.small {F:Nat} {s:mosaic_Spec} {N:mosaic_Node} (h:NI F s N):(ksN N).length≤tot N.kept:=by
 rw [(Gz N).1];exact W0 fun p hp=>(h.ok p hp).2.1
theorem NI.key {F:Nat} {s:mosaic_Spec} {N:mosaic_Node} (h:NI F s N) {k:mosaic_Key} (hk:k∈ksN N):okK s k∧kl N.kept k≠[]:=by
 obtain ⟨l,hl⟩:=Tz.1 hk;have:=h.ok _ (Zf hl);refine ⟨this.1,?_⟩;unfold kl;rw [hl];exact this.2.1
theorem Pd {F:Nat} {N:mosaic_Node} (h:N.kept.length≤1000000):F2 F N=some (ksN N):=by unfold F2;rw [if_pos h];rfl
theorem Yf {F:Nat} {N:mosaic_Node} {x:Int} {k2:Int→List mosaic_Message→Option (List mosaic_Message)} {k:mosaic_Key} (hv:∀v∈kl N.kept k,v.length≤10000) (hx:0≤x∧x≤1000000) (hk:(kl N.kept k).length≤1000) :
  ∀(n i:Nat) (acc:List mosaic_Message),i≤(kl N.kept k).length→(kl N.kept k).length-i<n→acc.length+((kl N.kept k).length-i)≤10000000→Df F N x k2 k n (i:Int) acc=k2 (x+1) (acc++((kl N.kept k).drop i).map (mosaic_Message.mk k)):=by
 intro n
 induction n with
 | zero=>intro i acc _ h;omega
 | succ n ih =>
  intro i acc hi hn ha;rw [Df];unfold Fh;rw [show (lkM N.kept k).getD []=kl N.kept k from rfl]
  by_cases hc:i<(kl N.kept k).length
  ·have hl:=hv _ (List.getElem_mem hc);rw [Ce (dT (by omega)),Cv i (kl N.kept k)[i] rfl (List.getElem?_eq_getElem hc)];unfold B2;rw [Lt (by simp;omega) (by decide),List.nil_append,sbd,Lt (by simp;omega) (by decide),ckb (by omega)];have:=ih (i+1) (acc++[mosaic_Message.mk k (kl N.kept k)[i]]) (by omega) (by omega) (by simp;omega);rw [List.append_assoc,List.singleton_append,←List.map_cons,←List.drop_eq_getElem_cons hc] at this;exact this
  ·rw [B3 (dF (by omega)),List.drop_eq_nil_of_le (by omega)];unfold Fj;rw [ckb (by omega),List.map_nil,List.append_nil]
theorem Yg {F:Nat} {N:mosaic_Node} {L:List mosaic_Key} (hF:1000≤F) (hL:L.length≤1000) (hv:∀k,∀v∈kl N.kept k,v.length≤10000) (hk:∀k,(kl N.kept k).length<1000) :
  ∀(n i:Nat) (acc:List mosaic_Message),i≤L.length→L.length-i<n→acc.length+1000*(L.length-i)≤10000000→Cm F N L n (i:Int) acc=some (acc++(L.drop i).flatMap fun k=>(kl N.kept k).map (mosaic_Message.mk k)):=by
 intro n
 induction n with
 | zero=>intro i acc _ h;omega
 | succ n ih =>
  intro i acc hi hn ha;rw [Cm];unfold Fg
  by_cases hc:i<L.length
  ·have h1:=hk L[i];rw [Ce (dT (by omega)),Cv i L[i] rfl (List.getElem?_eq_getElem hc)];have h2:=Yf (F:=F) (N:=N) (x:=i) (k2:=Cm F N L n) (k:=L[i]) (hv _) (by omega) (by omega) F 0 acc (by omega) (by omega) (by omega);rw [List.drop_zero] at h2;have h3:=ih (i+1) (acc++(kl N.kept L[i]).map (mosaic_Message.mk L[i])) (by omega) (by omega) (by simp;omega);rw [List.append_assoc,←List.flatMap_cons (f:=fun k=>(kl N.kept k).map (mosaic_Message.mk k)),←List.drop_eq_getElem_cons hc] at h3;exact h2.trans h3
  ·rw [B3 (dF (by omega)),List.drop_eq_nil_of_le (by omega)];unfold Fi;rw [List.flatMap_nil,List.append_nil]
theorem Rb {F:Nat} {s:mosaic_Spec} {N:mosaic_Node} (hF:1000≤F) (hs:GS F s) (h:NI F s N) (ht:tot N.kept<900):C9 F N=some (Rx N):=by
 have h1:=h.small;have h2:=(Gz N).1;have h3:=hs.small;unfold C9;rw [Pd (by omega),sbd];have:=Yg (F:=F) (N:=N) (L:=ksN N) hF (by omega) (fun k v hv=>by rw [h.kl_ok k v hv];omega) (fun k=>by have:=Zd N.kept k;omega) F 0 [] (by omega) (by omega) (by simp;omega);rw [List.drop_zero,List.nil_append] at this;exact this
theorem Pc {F:Nat} {s:mosaic_Spec} {N:mosaic_Node} (h:NI F s N) (ht:tot N.kept<900):Ef F N=some ((ksN N).filter fun k=>decide (2≤(kl N.kept k).length)):=by
 have h1:=h.small;have h2:=(Gz N).1;unfold Ef;rw [if_pos (by omega)];show some ((ksN N).filter _)=_
 congr 1
 apply List.filter_congr;intro k _;show (!decide (((kl N.kept k).length:Int)<2))=_
 by_cases hk:2≤(kl N.kept k).length
 ·rw [dT hk,dF (by omega)];rfl
 ·rw [dF hk,dT (by omega)];rfl
theorem Zl {N:mosaic_Node} {m:mosaic_Message}:m∈Rx N↔m.Vals∈kl N.kept m.Key:=by
 unfold Rx;rw [List.mem_flatMap];constructor
 ·rintro ⟨k,_,hm⟩;obtain ⟨v,hv,rfl⟩:=List.mem_map.1 hm;exact hv
 ·intro hv;refine ⟨m.Key,?_,List.mem_map.2 ⟨m.Vals,hv,rfl⟩⟩;rw [Tz];unfold kl at hv
  cases e:lkM N.kept m.Key with
  | none=>rw [e] at hv;cases hv
  | some l=>exact ⟨l,rfl⟩
end Go.Proofs.YtkbjbnkkfifbmaaGreat
namespace Go.Proofs.YtkbjbnkkfifbmaaGreat
open Go Go.RowKit Go.Eng
set_option maxRecDepth 10000
set_option linter.unusedVariables false
set_option linter.unusedSimpArgs false
theorem Rp {α:Type} {x d:α}:(some x).getD d=x:=rfl
def Qq (s:mosaic_Spec) (t:Int) (r:mosaic_Radar) (v:Int):api_Span:=if 0≤v then Yj r.Site t s.Earth (v.tmod r.Site.Gates) else ⟨1,0⟩
theorem Zg {F:Nat} {s:mosaic_Spec} {N:mosaic_Node} {k:mosaic_Key} {r:mosaic_Radar} {V:List Int} (hs:GS F s) (hsp:N.spec=s) (hr:N.radars=radM s) (hk:okK s k) (hrk:lkM (radM s) k.Name=some r) (hV:V.length≤1000) :
  ∀(n i:Nat) (acc:List api_Span),i≤V.length→V.length-i<n→acc.length≤i→Cj F N k (V,0) n acc (i:Int)=some (acc++(V.drop i).map (Qq s k.Tilt r),upM N.looks ⟨k.Name,k.Tilt⟩ (acc++(V.drop i).map (Qq s k.Tilt r))):=by
 obtain ⟨v1,v2,_,_,_⟩:=hs.r _ _ hrk;have hg:=v1.gates;intro n
 induction n with
 | zero=>intro i acc _ h;omega
 | succ n ih =>
  intro i acc hi hn ha;rw [Cj];unfold F6;rw [show (V,(0:Int)).1=V from rfl]
  by_cases hc:i<V.length
  ·have fin:∀b:api_Span,b=Qq s k.Tilt r V[i]→D4 acc i (Cj F N k (V,0) n) b.Lo b.Hi=some (acc++(V.drop i).map (Qq s k.Tilt r),upM N.looks ⟨k.Name,k.Tilt⟩ (acc++(V.drop i).map (Qq s k.Tilt r))):=by
    intro b hb;unfold D4;rw [Lt (by simp;omega) (by decide),ckb (by omega)];have:=ih (i+1) (acc++[b]) (by omega) (by omega) (by simp;omega);rw [List.append_assoc,List.singleton_append,hb,←List.map_cons,←List.drop_eq_getElem_cons hc] at this;rw [hb];exact this
   rw [Ce (dT (by omega)),Cv i V[i] rfl (List.getElem?_eq_getElem hc),hr,hrk,Rp]
   by_cases hv:V[i]≥0
   ·have e1:E4 V[i] r.Site.Gates=some (V[i].tmod r.Site.Gates):=by unfold E4;rw [if_neg (by omega)]
    have h0:=Int.tmod_nonneg r.Site.Gates hv;have h1:=Int.tmod_lt_of_pos V[i] (show 0<r.Site.Gates by omega);rw [Ce (dT hv),e1,sbd,hsp,show (api_Site.mk r.Site.Name r.Site.X r.Site.Y r.Site.Z r.Site.Rose r.Site.Gates r.Site.Step r.Site.Width)=r.Site from rfl,A0f v2 v1 hs.e hk.2.1 ⟨h0,h1⟩,sbd];exact fin _ (by unfold Qq;rw [if_pos hv])
   ·rw [B3 (dF hv)];exact fin ⟨1,0⟩ (by unfold Qq;rw [if_neg (by omega)])
  ·rw [B3 (dF (by omega)),List.drop_eq_nil_of_le (by omega)];unfold F7;rw [List.map_nil,List.append_nil]
theorem Si {F:Nat} {s:mosaic_Spec} {k:mosaic_Key} {r:mosaic_Radar} (hF:200≤F) (hs:GS F s) (hk:okK s k) (hrk:lkM (radM s) k.Name=some r) :
  ∃V,Jp F r.Site k.Tilt s.Grid=some (V,0)∧V.length=pix s∧Mz F s ⟨k.Name,k.Tilt⟩=V.map (Qq s k.Tilt r):=by
 obtain ⟨v1,v2,_,_,_⟩:=hs.r _ _ hrk;obtain ⟨V,e,hl⟩:=A0h (F:=F) hF v2 v1 hs.g hk.2.1;refine ⟨V,e,hl,?_⟩;unfold Mz;dsimp only;rw [hrk,Rp,e,Rp];rfl
theorem Vo {F:Nat} {s:mosaic_Spec} {k:mosaic_Key} (hF:200≤F) (hs:GS F s) (hk:okK s k):(Mz F s ⟨k.Name,k.Tilt⟩).length=pix s:=by
 obtain ⟨r,hr⟩:=hk.1;obtain ⟨V,_,hl,e⟩:=Si hF hs hk hr;rw [e,List.length_map,hl]
theorem A0x {F:Nat} {s:mosaic_Spec} {N:mosaic_Node} {k:mosaic_Key} (hF:1000≤F) (hs:GS F s) (hsp:N.spec=s) (hr:N.radars=radM s) (hl:LV F s N.looks) (hk:okK s k) :
  ∃L,F5 F N k=some (Mz F s ⟨k.Name,k.Tilt⟩,L)∧LV F s L:=by
 obtain ⟨r,hrk⟩:=hk.1;obtain ⟨V,e,hV,eb⟩:=Si (F:=F) (by omega) hs hk hrk;have h2:=hs.small;unfold F5
 cases hq:lkM N.looks (mosaic_where.mk k.Name k.Tilt) with
 | some l =>
  rw [Ce (c:=(some l).isSome) rfl,Rp,hl _ _ hq];exact ⟨_,rfl,hl⟩
 | none =>
  rw [B3 (c:=(none:Option (List api_Span)).isSome) rfl,hr,hrk,Rp,hsp,show (api_Site.mk r.Site.Name r.Site.X r.Site.Y r.Site.Z r.Site.Rose r.Site.Gates r.Site.Step r.Site.Width)=r.Site from rfl,e,sbd];have:=Zg (F:=F) hs hsp hr hk hrk (V:=V) (by omega) F 0 [] (by omega) (by omega) (by simp);rw [List.drop_zero,List.nil_append,←eb] at this;refine ⟨_,this,?_⟩;intro w l hw;rw [Qv] at hw
  by_cases h:w=mosaic_where.mk k.Name k.Tilt
  ·rw [if_pos h] at hw;cases hw;rw [h]
  ·rw [if_neg h] at hw;exact hl _ _ hw
def A13 (s:mosaic_Spec) (k:mosaic_Key):api_Span:=((lkM (radM s) k.Name).getD default).Offset
def Kx (s:mosaic_Spec) (N:mosaic_Node) (t:Int) (k:mosaic_Key):Bool:=decide ((kl N.kept k).length=1∧k.Time+(A13 s k).Hi≤t∧t-k.Time-(A13 s k).Lo≤s.Age)
def whK (k:mosaic_Key):mosaic_where:=⟨k.Name,k.Tilt⟩
def Qz (s:mosaic_Spec) (N:mosaic_Node) (t:Int) (B:List (mosaic_where×mosaic_Key)) (L:List mosaic_Key):List (mosaic_where×mosaic_Key):=L.foldl (fun B k=>if Kx s N t k then upM B (whK k) k else B) B
def Sr (B:List (mosaic_where×mosaic_Key)) (k:mosaic_Key):Bool:=decide (lkM B (whK k)=some k)
def D6 (F:Nat) (s:mosaic_Spec) (N:mosaic_Node) (k:mosaic_Key):mosaic_used:=⟨k,((kl N.kept k)[0]?).getD [],Mz F s (whK k)⟩
theorem baE (a b:ByteArray):(a==b)=true↔a=b:=by
 obtain ⟨a⟩:=a;obtain ⟨b⟩:=b;constructor
 ·intro h;have:(a==b)=true:=h;rw [beq_iff_eq] at this;rw [this]
 ·intro h
  cases h
  exact (beq_self_eq_true a:_)
theorem A3q (x k:mosaic_Key):((x.Name==k.Name)&&(((x.Tilt:Int)==k.Tilt)&&(((x.Time:Int)==k.Time)&&true)))=decide (x=k):=by
 obtain ⟨n,t,u⟩:=x;obtain ⟨n',t',u'⟩:=k;dsimp only
 by_cases h:n=n'∧t=t'∧u=u'
 ·obtain ⟨rfl,rfl,rfl⟩:=h;rw [(baE n n).2 rfl];simp
 ·rw [dF (by simpa using h)]
  cases h1:(n==n') with
  | false=>rfl
  | true =>
   cases h2:(t==t') with
   | false=>rfl
   | true =>
    cases h3:(u==u') with
    | false=>rfl
    | true=>exact absurd ⟨(baE _ _).1 h1,by simpa using h2,by simpa using h3⟩ h
theorem A0b {F:Nat} {s:mosaic_Spec} {N:mosaic_Node} {B:List (mosaic_where×mosaic_Key)} {L:List mosaic_Key} (hF:1000≤F) (hs:GS F s) (h:NI F s N) (hL:∀k∈L,okK s k∧kl N.kept k≠[]) (hl:L.length≤10000) :
  ∀(n i:Nat) (lk:List (mosaic_where×List api_Span)) (acc:List mosaic_used),i≤L.length→L.length-i<n→acc.length≤i→LV F s lk →
   ∃lk',Cy F N B L n lk (i:Int) acc=some (acc++((L.drop i).filter (Sr B)).map (D6 F s N),lk')∧LV F s lk':=by
 intro n
 induction n with
 | zero=>intro i lk acc _ h;omega
 | succ n ih =>
  intro i lk acc hi hn ha hlk;rw [Cy];unfold Gc
  by_cases hc:i<L.length
  ·obtain ⟨hk,hne⟩:=hL _ (List.getElem_mem hc);rw [Ce (dT (by omega)),Cv i L[i] rfl (List.getElem?_eq_getElem hc),List.drop_eq_getElem_cons hc,A3q];have hx:decide ((lkM B (mosaic_where.mk L[i].Name L[i].Tilt)).getD (mosaic_Key.mk ByteArray.empty 0 0)=L[i])=Sr B L[i]:=by
    unfold Sr whK
    cases e:lkM B (mosaic_where.mk L[i].Name L[i].Tilt) with
    | some x=>rw [Rp];congr 1;simp
    | none =>
     rw [dF,dF]
     ·simp
     ·intro e0;obtain ⟨r,hr⟩:=hk.1;have:(ByteArray.empty)=L[i].Name:=congrArg (·.Name) e0;exact (hs.r _ _ hr).2.2.2.1 this.symm
   rw [hx]
   cases hb:Sr B L[i] with
   | true =>
    obtain ⟨lk',e,hlk'⟩:=A0x (N:=mosaic_Node.mk N.spec N.radars N.horizon N.kept N.count lk) hF hs h.spec h.radars hlk hk;obtain ⟨v,vs,hv⟩:=List.exists_cons_of_ne_nil hne;rw [cond_true,show (lkM N.kept L[i]).getD []=kl N.kept L[i] from rfl,Cv (l:=kl N.kept L[i]) (i:=0) 0 v rfl (by rw [hv];rfl),e,sbd,Lt (by simp;omega) (by decide)];unfold Dw;rw [ckb (by omega),List.filter_cons_of_pos (by exact hb)];obtain ⟨lk2,e2,h2⟩:=ih (i+1) lk' (acc++[D6 F s N L[i]]) (by omega) (by omega) (by simp;omega) hlk';refine ⟨lk2,?_,h2⟩;rw [List.append_assoc,List.singleton_append] at e2;have eu:mosaic_used.mk L[i] v (Mz F s ⟨L[i].Name,L[i].Tilt⟩)=D6 F s N L[i]:=by unfold D6 whK;rw [hv];rfl
    show Cy F N B L n lk' _ (acc++[mosaic_used.mk L[i] v (Mz F s ⟨L[i].Name,L[i].Tilt⟩)])=_;rw [eu];exact e2
   | false =>
    rw [cond_false];unfold Dw;rw [ckb (by omega),List.filter_cons_of_neg (by rw [hb];decide)];exact ih (i+1) lk acc (by omega) (by omega) (by omega) hlk
  ·rw [B3 (dF (by omega)),List.drop_eq_nil_of_le (by omega)];exact ⟨lk,by simp [Ge],hlk⟩
theorem A11 {F:Nat} {s:mosaic_Spec} {N:mosaic_Node} {t:Int} {L:List mosaic_Key} (hs:GS F s) (h:NI F s N) (ht:0≤t∧t≤1000000000000) (hL:∀k∈L,okK s k) (hl:L.length≤10000) :
  ∀(n i:Nat) (B:List (mosaic_where×mosaic_Key)),i≤L.length→L.length-i<n→Cz F N t L n B (i:Int)=Dv F N (Qz s N t B (L.drop i)):=by
 intro n
 induction n with
 | zero=>intro i B _ h;omega
 | succ n ih =>
  intro i B hi hn;rw [Cz];unfold Gd
  by_cases hc:i<L.length
  ·have hk:=hL _ (List.getElem_mem hc);obtain ⟨r,hr⟩:=hk.1;obtain ⟨_,_,ho,_,_⟩:=hs.r _ _ hr;have htm:=hk.2.2;have hag:=hs.age;have eo:A13 s L[i]=r.Offset:=by unfold A13;rw [hr];rfl
   rw [Ce (dT (by omega)),Cv i L[i] rfl (List.getElem?_eq_getElem hc),List.drop_eq_getElem_cons hc,h.radars,hr,Rp,show (lkM N.kept L[i]).getD []=kl N.kept L[i] from rfl,h.spec];have fin:∀C,Dx (i:Int) (Cz F N t L n) C=Dv F N (Qz s N t C (L.drop (i+1))):=by
    intro C;unfold Dx;rw [ckb (by omega)];exact ih (i+1) C (by omega) (by omega)
   have step:Qz s N t B (L[i]::L.drop (i+1))=Qz s N t (if Kx s N t L[i] then upM B (whK L[i]) L[i] else B) (L.drop (i+1)):=rfl;rw [step]
   by_cases h1:(kl N.kept L[i]).length=1
   ·rw [h1,show (((1:Nat):Int)==1)=true from rfl,gdT (g:=(true==true&&true)) rfl,ckb (by omega)]
    by_cases h2:L[i].Time+r.Offset.Hi≤t
    ·rw [dT h2,gdT (g:=((bif true then true else false)==true&&true)) rfl,ckb (by omega),gdT (g:=((bif true then true else false)==true&&true)) rfl,ckb (by omega)]
     by_cases h3:t-L[i].Time-r.Offset.Lo≤s.Age
     ·rw [dT h3,Ce (c:=bif (bif true then true else false) then true else false) rfl,fin];have hf:Kx s N t L[i]=true:=by unfold Kx;rw [eo];exact dT ⟨h1,h2,h3⟩
      rw [hf,if_pos rfl];rfl
     ·rw [dF h3,B3 (c:=bif (bif true then true else false) then false else false) rfl,fin];have hf:Kx s N t L[i]=false:=by unfold Kx;rw [eo];exact dF fun x=>h3 x.2.2
      rw [hf];rfl
    ·rw [dF h2,gdF (g:=((bif true then false else false)==true&&true)) rfl,sbd,gdF (g:=((bif true then false else false)==true&&true)) rfl,sbd,B3 (c:=bif (bif true then false else false) then _ else false) rfl,fin];have hf:Kx s N t L[i]=false:=by unfold Kx;rw [eo];exact dF fun x=>h2 x.2.1
     rw [hf];rfl
   ·have e1:((((kl N.kept L[i]).length:Nat):Int)==1)=false:=by
     have:¬(((kl N.kept L[i]).length:Nat):Int)=1:=by omega
     simpa using this
    rw [e1,gdF (g:=(false==true&&true)) rfl,sbd,gdF (g:=((bif false then _ else false)==true&&true)) rfl,sbd,gdF (g:=((bif false then _ else false)==true&&true)) rfl,sbd,B3 (c:=bif (bif false then _ else false) then _ else false) rfl,fin];have hf:Kx s N t L[i]=false:=by unfold Kx;exact dF fun x=>h1 x.1
    rw [hf];rfl
  ·rw [B3 (dF (by omega)),List.drop_eq_nil_of_le (by omega)];rfl
def Jm (s:mosaic_Spec) (N:mosaic_Node) (t:Int):List mosaic_Key:=(ksN N).filter (Sr (Qz s N t [] (ksN N)))
theorem A1u {F:Nat} {s:mosaic_Spec} {N:mosaic_Node} {t:Int} (hF:1000≤F) (hs:GS F s) (h:NI F s N) (hn:tot N.kept<900) (ht:0≤t∧t≤1000000000000) :
  ∃L,Ey F N t=some ((Jm s N t).map (D6 F s N),L)∧LV F s L:=by
 have h1:=h.small;have h2:=(Gz N).1;unfold Ey;rw [Pd (by omega),sbd];have e:=A11 (F:=F) (N:=N) (t:=t) (L:=ksN N) hs h ht (fun k hk=>(h.key hk).1) (by omega) F 0 [] (by omega) (by omega);rw [List.drop_zero] at e;obtain ⟨L,e2,hL⟩:=A0b (B:=Qz s N t [] (ksN N)) hF hs h (L:=ksN N) (fun k hk=>h.key hk) (by omega) F 0 N.looks [] (by omega) (by omega) (by simp) h.looks;rw [List.drop_zero,List.nil_append] at e2;refine ⟨L,?_,hL⟩;refine e.trans ?_;unfold Dv;rw [Pd (by omega),sbd];exact e2
theorem A10 {F:Nat} {s:mosaic_Spec} {N:mosaic_Node} {t:Int}:∀(L:List mosaic_Key) (B:List (mosaic_where×mosaic_Key)) (w:mosaic_where),L.Pairwise (fun x y=>¬KLt y x) →
  (∀k,lkM B w=some k→whK k=w∧∀k'∈L,¬KLt k' k) →
  (∀k,lkM (Qz s N t B L) w=some k→whK k=w∧(lkM B w=some k∨(k∈L∧Kx s N t k=true))∧∀k'∈L,Kx s N t k'=true→whK k'=w→¬KLt k k') ∧
  (lkM (Qz s N t B L) w=none→lkM B w=none∧∀k'∈L,Kx s N t k'=true→whK k'≠w):=by
 intro L
 induction L with
 | nil=>intro B w _ hB;exact ⟨fun k hk=>⟨(hB k hk).1,.inl hk,fun _ h=>by cases h⟩,fun hk=>⟨hk,fun _ h=>by cases h⟩⟩
 | cons x L ih =>
  intro B w hp hB;obtain ⟨hx,hp⟩:=List.pairwise_cons.1 hp;have e:Qz s N t B (x::L)=Qz s N t (if Kx s N t x then upM B (whK x) x else B) L:=rfl;rw [e]
  by_cases hf:Kx s N t x=true∧whK x=w
  ·obtain ⟨hf,hw⟩:=hf;have hlk:lkM (upM B (whK x) x) w=some x:=by rw [←hw,X9]
   rw [hf,if_pos rfl];obtain ⟨i1,i2⟩:=ih (upM B (whK x) x) w hp (fun k hk=>by rw [hlk] at hk;cases hk;exact ⟨hw,hx⟩)
   constructor
   ·intro k hk;obtain ⟨a1,a2,a3⟩:=i1 k hk;refine ⟨a1,?_,?_⟩
    ·rcases a2 with a2|a2
     ·rw [hlk] at a2;cases a2;exact .inr ⟨.head _,hf⟩
     ·exact .inr ⟨.tail _ a2.1,a2.2⟩
    ·intro k' hk' hfk hwk;rcases List.mem_cons.1 hk' with rfl|hk'
     ·rcases a2 with a2|a2
      ·rw [hlk] at a2;cases a2;exact Tx _
      ·exact hx _ a2.1
     ·exact a3 k' hk' hfk hwk
   ·intro hk;have:=(i2 hk).1;rw [hlk] at this;cases this
  ·have hlk:lkM (if Kx s N t x then upM B (whK x) x else B) w=lkM B w:=by
    by_cases hfx:Kx s N t x=true
    ·rw [hfx,if_pos rfl,Qv,if_neg (fun e=>hf ⟨hfx,e.symm⟩)]
    ·rw [if_neg hfx]
   obtain ⟨i1,i2⟩:=ih (if Kx s N t x then upM B (whK x) x else B) w hp (fun k hk=>by rw [hlk] at hk;exact ⟨(hB k hk).1,fun k' hk'=>(hB k hk).2 k' (.tail _ hk')⟩);constructor
   ·intro k hk;obtain ⟨a1,a2,a3⟩:=i1 k hk;refine ⟨a1,?_,?_⟩
    ·rcases a2 with a2|a2
     ·rw [hlk] at a2;exact .inl a2
     ·exact .inr ⟨.tail _ a2.1,a2.2⟩
    ·intro k' hk' hfk hwk;rcases List.mem_cons.1 hk' with rfl|hk'
     ·exact absurd ⟨hfk,hwk⟩ hf
     ·exact a3 k' hk' hfk hwk
   ·intro hk;obtain ⟨b1,b2⟩:=i2 hk;rw [hlk] at b1;refine ⟨b1,fun k' hk' hfk hwk=>?_⟩;rcases List.mem_cons.1 hk' with rfl|hk'
    ·exact hf ⟨hfk,hwk⟩
    ·exact b2 k' hk' hfk hwk
theorem Ux {x y:mosaic_Key} (hw:whK x=whK y):KLt x y↔x.Time<y.Time:=by
 obtain ⟨n,t,u⟩:=x;obtain ⟨n',t',u'⟩:=y;simp only [whK,mosaic_where.mk.injEq] at hw;obtain ⟨rfl,rfl⟩:=hw;unfold KLt;constructor
 ·rintro (h|⟨_,h|⟨_,h⟩⟩)
  ·exact h
  ·exact absurd h (P4 _)
  ·exact absurd h (Int.lt_irrefl _)
 ·exact .inl
theorem A1l {s:mosaic_Spec} {N:mosaic_Node} {t:Int} {k:mosaic_Key}:k∈Jm s N t↔k∈ksN N∧Kx s N t k=true∧∀k'∈ksN N,Kx s N t k'=true→whK k'=whK k→k'.Time≤k.Time:=by
 have hn:=A10 (F:=0) (s:=s) (N:=N) (t:=t) (ksN N) [] (whK k) (Gz N).2.2 (fun k hk=>by cases hk)
 unfold Jm;rw [List.mem_filter];unfold Sr;rw [decide_eq_true_iff];constructor
 ·rintro ⟨h1,h2⟩;obtain ⟨_,a2,a3⟩:=hn.1 k h2;refine ⟨h1,?_,fun k' hk' hf hw=>?_⟩
  ·rcases a2 with a2|a2
   ·cases a2
   ·exact a2.2
  ·have:=a3 k' hk' hf hw;rw [Ux hw.symm] at this;omega
 ·rintro ⟨h1,h2,h3⟩;refine ⟨h1,?_⟩
  cases e:lkM (Qz s N t [] (ksN N)) (whK k) with
  | none=>exact absurd rfl ((hn.2 e).2 k h1 h2)
  | some x =>
   obtain ⟨a1,a2,a3⟩:=hn.1 x e;rcases a2 with a2|a2
   ·cases a2
   ·have b1:=h3 x a2.1 a2.2 a1;have b2:=a3 k h1 h2 rfl;rw [Ux a1] at b2
    congr 1
    obtain ⟨n,t,u⟩:=x;obtain ⟨n',t',u'⟩:=k;simp only [whK,mosaic_where.mk.injEq] at a1;obtain ⟨rfl,rfl⟩:=a1;have:u=u':=by
     simp only at b1 b2;omega
    rw [this]
end Go.Proofs.YtkbjbnkkfifbmaaGreat
namespace Go.Proofs.YtkbjbnkkfifbmaaGreat
open Go Go.RowKit Go.Eng
set_option maxRecDepth 10000
set_option linter.unusedVariables false
set_option linter.unusedSimpArgs false
structure C3 {α:Type} (c:α→α→Int):Prop where
 tr:∀x y z,c x y<0→c y z<0→c x z<0
 e1:∀x y z,c x y=0→c x z=c y z
 e2:∀x y z,c y z=0→c x y=c x z
 rf:∀x,c x x=0
 ay:∀x y,c x y<0∨c x y=0∨c y x<0
def Qa {α:Type} (c d:α→α→Int) (x y:α):Int:=if c x y≠0 then c x y else d x y
theorem Pv {α:Type} {c d:α→α→Int} (hc:C3 c) (hd:C3 d):C3 (Qa c d):=by
 refine ⟨fun x y z=>?_,fun x y z=>?_,fun x y z=>?_,fun x=>?_,fun x y=>?_⟩
 ·unfold Qa;intro h1 h2
  by_cases a:c x y=0
  ·rw [if_neg (by simpa using a)] at h1;have e:=hc.e1 x y z a;rw [e]
   by_cases b:c y z=0
   ·rw [if_neg (by simpa using b)] at h2 ⊢;exact hd.tr x y z h1 h2
   ·rw [if_pos b] at h2 ⊢;exact h2
  ·rw [if_pos a] at h1
   by_cases b:c y z=0
   ·have e:=hc.e2 x y z b;rw [←e,if_pos a];exact h1
   ·rw [if_pos b] at h2;have:=hc.tr x y z h1 h2;rw [if_pos (by omega)];exact this
 ·unfold Qa;intro h1
  by_cases a:c x y=0
  ·rw [if_neg (by simpa using a)] at h1;rw [hc.e1 x y z a,hd.e1 x y z h1]
  ·rw [if_pos a] at h1;exact absurd h1 a
 ·unfold Qa;intro h1
  by_cases a:c y z=0
  ·rw [if_neg (by simpa using a)] at h1;rw [hc.e2 x y z a,hd.e2 x y z h1]
  ·rw [if_pos a] at h1;exact absurd h1 a
 ·unfold Qa;rw [if_neg (by simpa using hc.rf x),hd.rf]
 ·unfold Qa;rcases hc.ay x y with h|h|h
  ·left;rw [if_pos (by omega)];exact h
  ·rw [if_neg (by simpa using h)];have h':c y x=0:=by have:=hc.e1 x y x h;rw [hc.rf] at this;exact this.symm
   rw [if_neg (by simpa using h')];exact hd.ay x y
  ·right;right;rw [if_pos (by omega)];exact h
theorem Ui {α:Type} (f:α→Int):C3 (fun x y=>c3 (f x) (f y)):=by
 refine ⟨fun x y z=>?_,fun x y z=>?_,fun x y z=>?_,fun x=>?_,fun x y=>?_⟩<;>unfold c3<;>(repeat' split)<;>omega
theorem A2c {α:Type} (f:α→Int):C3 (fun x y=>c3 (f y) (f x)):=by
 refine ⟨fun x y z=>?_,fun x y z=>?_,fun x y z=>?_,fun x=>?_,fun x y=>?_⟩<;>unfold c3<;>(repeat' split)<;>omega
theorem Mi {a b:ByteArray}:c3s a b<0↔a.toList<b.toList:=by
 unfold c3s
 by_cases h:Qm a b=true
 ·rw [if_pos h];exact ⟨fun _=>(M8 a b).1 h,fun _=>by decide⟩
 ·rw [if_neg h];refine ⟨fun h2=>?_,fun h2=>absurd ((M8 a b).2 h2) h⟩
  split at h2<;>simp at h2
theorem Mh {a b:ByteArray}:c3s a b=0↔a.toList=b.toList:=by
 unfold c3s
 by_cases h:Qm a b=true
 ·rw [if_pos h];refine ⟨fun h2=>by simp at h2,fun h2=>?_⟩;have:=(M8 a b).1 h;rw [h2] at this;exact absurd this (P4 _)
 ·rw [if_neg h]
  by_cases g:Q1 a b=true
  ·rw [if_pos g];exact ⟨fun h2=>by simp at h2,fun h2=>absurd h2 ((Q2 a b).1 g).2⟩
  ·rw [if_neg g];refine ⟨fun _=>?_,fun _=>rfl⟩;refine Decidable.by_contra fun hn=>g ((Q2 a b).2 ⟨fun hl=>h ((M8 a b).2 hl),hn⟩)
theorem Uj {a b c d:ByteArray} (h:a.toList=b.toList) (k:c.toList=d.toList):c3s a c=c3s b d:=by
 rcases W6 a.toList c.toList with e|e|e
 ·have h1:c3s a c<0:=Mi.2 e;have h2:c3s b d<0:=Mi.2 (by rw [←h,←k];exact e);unfold c3s at *
  split at h1<;>(try split at h1)<;>split at h2<;>(try split at h2)<;>simp_all
 ·rw [Mh.2 e,Mh.2 (by rw [←h,←k];exact e)]
 ·have h1:¬c3s a c<0:=fun x=>absurd (Xa e (Mi.1 x)) (P4 _);have h1':c3s a c≠0:=fun x=>by rw [Mh.1 x] at e;exact P4 _ e
  have h2:¬c3s b d<0:=fun x=>by have:=Mi.1 x;rw [←h,←k] at this;exact absurd (Xa e this) (P4 _)
  have h2':c3s b d≠0:=fun x=>by have:=Mh.1 x;rw [←h,←k] at this;rw [this] at e;exact P4 _ e
  unfold c3s at *
  split at h1<;>(try split at h1)<;>split at h2<;>(try split at h2)<;>simp_all
theorem A2d {α:Type} (f:α→ByteArray):C3 (fun x y=>c3s (f x) (f y)):=by
 refine ⟨fun x y z h1 h2=>Mi.2 (Xa (Mi.1 h1) (Mi.1 h2)),fun x y z h=>Uj (Mh.1 h) rfl,fun x y z h=>Uj rfl (Mh.1 h),fun x=>Mh.2 rfl,fun x y=>?_⟩;rcases W6 (f x).toList (f y).toList with e|e|e
 ·exact .inl (Mi.2 e)
 ·exact .inr (.inl (Mh.2 e))
 ·exact .inr (.inr (Mi.2 e))
abbrev BK:=api_Span×mosaic_Key
def Tl (x y:BK):Int:=orL [c3 x.1.Hi y.1.Hi,c3 x.1.Lo y.1.Lo,c3 y.2.Time x.2.Time,c3s x.2.Name y.2.Name,c3 x.2.Tilt y.2.Tilt]
theorem Wt:Tl=Qa (fun x y=>c3 x.1.Hi y.1.Hi) (Qa (fun x y=>c3 x.1.Lo y.1.Lo) (Qa (fun x y=>c3 y.2.Time x.2.Time) (Qa (fun x y=>c3s x.2.Name y.2.Name) (fun x y=>c3 x.2.Tilt y.2.Tilt)))):=by
 funext x y
 unfold Tl Qa;show (if _ then _ else if _ then _ else if _ then _ else if _ then _ else if c3 x.2.Tilt y.2.Tilt≠0 then c3 x.2.Tilt y.2.Tilt else 0)=_;have:(if c3 x.2.Tilt y.2.Tilt≠0 then c3 x.2.Tilt y.2.Tilt else 0)=c3 x.2.Tilt y.2.Tilt:=by split<;>omega
 rw [this]
theorem betC_ok:C3 Tl:=by
 rw [Wt];exact Pv (Ui fun x:BK=>x.1.Hi) (Pv (Ui fun x:BK=>x.1.Lo) (Pv (A2c fun x:BK=>x.2.Time) (Pv (A2d fun x:BK=>x.2.Name) (Ui fun x:BK=>x.2.Tilt))))
theorem Xj (a b:ByteArray):Br a b=c3s a b:=by
 unfold Br By;have:∀c:ByteArray,sEq c c=true:=fun c=>by unfold sEq;simp
 rw [this,this,B3 (c:=!true) rfl,B3 (c:=!true) rfl];unfold c3s
 cases Qm a b with
 | true=>rfl
 | false=>cases Q1 a b<;>rfl
def Ra (l:List mosaic_used) (p:Nat) (x:mosaic_Pixel):Prop :=
 (x=⟨⟨0,1000000⟩,⟨ByteArray.empty,0,0⟩⟩∧∀u∈l,∀b,u.bands[p]? = some b→¬b.Lo≤b.Hi) ∨
 ∃u∈l,∃b v,u.bands[p]? = some b∧b.Lo≤b.Hi∧u.vals[p]? = some v∧x=⟨v,u.Key⟩∧∀u'∈l,∀b',u'.bands[p]? = some b'→b'.Lo≤b'.Hi→¬Tl (b',u'.Key) (b,u.Key)<0
def R0 (l:List mosaic_used) (p i:Nat) (q:Int):Prop :=
 (q=-1∧∀j u b,j<i→l[j]? = some u→u.bands[p]? = some b→¬b.Lo≤b.Hi) ∨
 ∃(m:Nat) (u:mosaic_used) (b:api_Span),q=m∧m<i∧l[m]? = some u∧u.bands[p]? = some b∧b.Lo≤b.Hi∧∀j u' b',j<i→l[j]? = some u'→u'.bands[p]? = some b'→b'.Lo≤b'.Hi→¬Tl (b',u'.Key) (b,u.Key)<0
abbrev YU:=List mosaic_used×List (mosaic_where×List api_Span)
theorem Yk {F P:Nat} {Y:YU} {p:Nat} {acc:List mosaic_Pixel} {k2:Int→List mosaic_Pixel→Option (List mosaic_Pixel×Int×List (mosaic_where×List api_Span))} (hF:100≤F) (hY:∀u∈Y.1,u.bands.length=P∧u.vals.length=P) (hp:p<P) (hl:Y.1.length≤10000) :
  ∀(n i:Nat) (q:Int),i≤Y.1.length→Y.1.length-i<n→R0 Y.1 p i q→∃q',Cb F Y p acc k2 n q (i:Int)=Cl Y p acc k2 q'∧R0 Y.1 p Y.1.length q':=by
 intro n
 induction n with
 | zero=>intro i q _ h;omega
 | succ n ih =>
  intro i q hi hn hq;rw [Cb];unfold Fc
  by_cases hc:i<Y.1.length
  ·have hu:=hY _ (List.getElem_mem hc);have hgu:=List.getElem?_eq_getElem hc;obtain ⟨u,hue⟩:∃u,u=Y.1[i]:=⟨_,rfl⟩;rw [←hue] at hu hgu;obtain ⟨b,hb⟩:∃b,u.bands[p]? = some b:=⟨_,List.getElem?_eq_getElem (show p<u.bands.length by omega)⟩;rw [Ce (dT (by omega)),Cv i u rfl hgu,Cv p b rfl hb];have fin:∀q',R0 Y.1 p (i+1) q'→∃q2,Ca (i:Int) (Cb F Y p acc k2 n) q'=Cl Y p acc k2 q2∧R0 Y.1 p Y.1.length q2:=by
    intro q' hq';unfold Ca;rw [ckb (by omega)];exact ih (i+1) q' (by omega) (by omega) hq'
   have one:∀j u',j<i+1→Y.1[j]? = some u'→j<i∨(j=i∧u'=u):=by
    intro j u' hj hg
    by_cases h:j<i
    ·exact .inl h
    ·have:j=i:=by omega
     subst this;rw [hgu] at hg;cases hg
     exact .inr ⟨rfl,rfl⟩
   unfold Ao
   by_cases hs:b.Lo≤b.Hi
   ·rw [B3 (by rw [dT hs];rfl)];rcases hq with ⟨rfl,h0⟩|⟨m,v,b2,rfl,hm,hv,hb2,hs2,h0⟩
    ·rw [Ce (dT (by omega))];refine fin _ (.inr ⟨i,u,b,rfl,by omega,hgu,hb,hs,?_⟩);intro j u' b' hj hg hb' hs';rcases one j u' hj hg with h|⟨rfl,rfl⟩
     ·exact absurd hs' (h0 j u' b' h hg hb')
     ·rw [hb] at hb';cases hb'
      rw [betC_ok.rf];omega
    ·rw [B3 (dF (by omega)),Cv m v rfl hv,Cv p b rfl hb,Cv p b2 rfl hb2,Cv p b rfl hb,Cv p b2 rfl hb2,Jo,Jo,Jo,Jo,Xj,A1s _ (by simp;omega) (by simp),sbd,
      show orL [c3 b.Hi b2.Hi,c3 b.Lo b2.Lo,c3 v.Key.Time u.Key.Time,c3s u.Key.Name v.Key.Name,c3 u.Key.Tilt v.Key.Tilt]=Tl (b,u.Key) (b2,v.Key) from rfl]
     by_cases hlt:Tl (b,u.Key) (b2,v.Key)<0
     ·rw [Ce (dT hlt)];refine fin _ (.inr ⟨i,u,b,rfl,by omega,hgu,hb,hs,?_⟩);intro j u' b' hj hg hb' hs' hbt;rcases one j u' hj hg with h|⟨rfl,rfl⟩
      ·exact h0 j u' b' h hg hb' hs' (betC_ok.tr _ _ _ hbt hlt)
      ·rw [hb] at hb';cases hb'
       rw [betC_ok.rf] at hbt;omega
     ·rw [B3 (dF hlt)];refine fin _ (.inr ⟨m,v,b2,rfl,by omega,hv,hb2,hs2,?_⟩);intro j u' b' hj hg hb' hs';rcases one j u' hj hg with h|⟨rfl,rfl⟩
      ·exact h0 j u' b' h hg hb' hs'
      ·rw [hb] at hb';cases hb'
       exact hlt
   ·rw [Ce (by rw [dF hs];rfl)];refine fin q ?_;rcases hq with ⟨rfl,h0⟩|⟨m,v,b2,rfl,hm,hv,hb2,hs2,h0⟩
    ·refine .inl ⟨rfl,fun j u' b' hj hg hb'=>?_⟩;rcases one j u' hj hg with h|⟨rfl,rfl⟩
     ·exact h0 j u' b' h hg hb'
     ·rw [hb] at hb';cases hb';exact hs
    ·refine .inr ⟨m,v,b2,rfl,by omega,hv,hb2,hs2,fun j u' b' hj hg hb' hs'=>?_⟩;rcases one j u' hj hg with h|⟨rfl,rfl⟩
     ·exact h0 j u' b' h hg hb' hs'
     ·rw [hb] at hb';cases hb';exact absurd hs' hs
  ·rw [B3 (dF (by omega))];have:i=Y.1.length:=by omega
   subst this;exact ⟨q,rfl,hq⟩
theorem A0z {F P:Nat} {Y:YU} (hF:100≤F) (hY:∀u∈Y.1,u.bands.length=P∧u.vals.length=P) (hl:Y.1.length<F) (hl2:Y.1.length≤10000) (hP:P≤10000) :
  ∀(n p:Nat) (acc:List mosaic_Pixel),p≤P→P-p<n→acc.length=p→(∀j x,acc[j]? = some x→Ra Y.1 j x)→∃out,Bo F Y (P:Int) n (p:Int) acc=some (out,0,Y.2)∧out.length=P∧∀j x,out[j]? = some x→Ra Y.1 j x:=by
 intro n
 induction n with
 | zero=>intro p acc _ h;omega
 | succ n ih =>
  intro p acc hp hn ha hx;rw [Bo];unfold Fb
  by_cases hc:p<P
  ·rw [Ce (dT (by omega))];obtain ⟨q,e,hq⟩:=Yk (F:=F) (P:=P) (Y:=Y) (p:=p) (acc:=acc) (k2:=Bo F Y (P:Int) n) hF hY hc hl2 F 0 (-1) (by omega) (by omega) (.inl ⟨rfl,fun j u b h=>by omega⟩);have e':Cb F Y (p:Int) acc (Bo F Y (P:Int) n) F (-1) 0=Cl Y p acc (Bo F Y (P:Int) n) q:=e;rw [e'];have fin:∀x:mosaic_Pixel,Ra Y.1 p x→∃out,De (p:Int) acc (Bo F Y (P:Int) n) x.Value_.Lo x.Value_.Hi x.Key.Name x.Key.Tilt x.Key.Time=some (out,0,Y.2)∧out.length=P∧∀j x,out[j]? = some x→Ra Y.1 j x:=by
    intro x hpx;unfold De Ff;rw [Lt (by simp;omega) (by decide),ckb (by omega)];refine ih (p+1) (acc++[x]) (by omega) (by omega) (by simp;omega) (fun j y hj=>?_)
    by_cases h:j<acc.length
    ·rw [List.getElem?_append_left h] at hj;exact hx j y hj
    ·rw [List.getElem?_append_right (by omega)] at hj;have:j=p:=by
      have:=(List.getElem?_eq_some_iff.1 hj).1;simp at this;omega
     subst this;rw [ha,Nat.sub_self] at hj
     cases hj;exact hpx
   unfold Cl;rcases hq with ⟨rfl,h0⟩|⟨m,u,b,rfl,hm,hu,hb,hs,h0⟩
   ·rw [Ce (dT (by omega))];refine fin ⟨⟨0,1000000⟩,⟨ByteArray.empty,0,0⟩⟩ (.inl ⟨rfl,fun u hu b hb=>?_⟩);obtain ⟨j,hj,rfl⟩:=List.mem_iff_getElem.1 hu;exact h0 j _ b hj (List.getElem?_eq_getElem hj) hb
   ·have hum:=List.mem_of_getElem? hu;obtain ⟨_,hvl⟩:=hY u hum;obtain ⟨v,hv⟩:∃v,u.vals[p]? = some v:=⟨_,List.getElem?_eq_getElem (by omega)⟩;rw [B3 (dF (by omega)),Cv m u rfl hu,Cv p v rfl hv];refine fin ⟨v,u.Key⟩ (.inr ⟨u,hum,b,v,hb,hs,hv,rfl,fun u' hu' b' hb' hs'=>?_⟩);obtain ⟨j,hj,rfl⟩:=List.mem_iff_getElem.1 hu';exact h0 j _ b' hj (List.getElem?_eq_getElem hj) hb' hs'
  ·rw [B3 (dF (by omega))];unfold Fe;exact ⟨acc,rfl,by omega,hx⟩
theorem Ug {F:Nat} {N:mosaic_Node} {t:Int} (h0:0≤t∧t≤4294967296) (hh:N.horizon≤t):Ci F N t=some 0:=by
 unfold Ci Ak;rw [sbd,cond_false,Kq h0,B3 (c:=!true) rfl,B3 (dF (by omega))]
theorem Vk {F:Nat} {s:mosaic_Spec} {N:mosaic_Node} {t:Int} (hF:1000≤F) (hs:GS F s) (h:NI F s N):∀u∈(Jm s N t).map (D6 F s N),u.bands.length=pix s∧u.vals.length=pix s:=by
 intro u hu;obtain ⟨k,hk,rfl⟩:=List.mem_map.1 hu;have hk2:=(A1l.1 hk).1;obtain ⟨h1,h2⟩:=h.key hk2;refine ⟨Vo (by omega) hs h1,?_⟩;obtain ⟨v,vs,hv⟩:=List.exists_cons_of_ne_nil h2;show (((kl N.kept k)[0]?).getD []).length=_;rw [hv];exact h.kl_ok k v (by rw [hv];exact .head _)
theorem Yd {F:Nat} {s:mosaic_Spec} {N:mosaic_Node} {t:Int} (hF:1000≤F) (hs:GS F s) (h:NI F s N) (hn:tot N.kept<900) (ht:0≤t∧t≤4294967296) (hh:N.horizon≤t) :
  ∃out L,Bh F N t=some (out,0,L)∧LV F s L∧out.length=pix s∧∀p x,out[p]? = some x→Ra ((Jm s N t).map (D6 F s N)) p x:=by
 obtain ⟨L,e,hL⟩:=A1u (t:=t) hF hs h hn (by omega);have hp:=Zv hs;have hsm:=hs.small;have hul:((Jm s N t).map (D6 F s N)).length≤tot N.kept:=by
  rw [List.length_map];exact Nat.le_trans (List.length_filter_le _ _) h.small
 obtain ⟨out,e2,h1,h2⟩:=A0z (F:=F) (P:=pix s) (Y:=((Jm s N t).map (D6 F s N),L)) (by omega) (Vk hF hs h) (by show ((Jm s N t).map (D6 F s N)).length<F;omega) (by show ((Jm s N t).map (D6 F s N)).length≤10000;omega) (by omega) F 0 [] (by omega) (by omega) rfl (fun j x hj=>by simp at hj);refine ⟨out,L,?_,hL,h1,h2⟩;unfold Bh;rw [Ug ht hh,sbd,B3 (c:=(0:Int) != 0) rfl,e,sbd,h.spec,hp.1,ckb (by omega)];exact e2
end Go.Proofs.YtkbjbnkkfifbmaaGreat
namespace Go.Proofs.YtkbjbnkkfifbmaaGreat
open Go Go.RowKit Go.Eng
set_option maxRecDepth 10000
set_option linter.unusedVariables false
set_option linter.unusedSimpArgs false
theorem Gt {β:Type} {x y:Int} {f:Int→Option β} (h:y≠0):(E4 x y).bind f=f (x.tmod y):=by unfold E4;rw [if_neg h];rfl
structure RG (F:Nat) (s:mosaic_Spec):Prop where
 g:VG s.Grid
 e:VE s.Earth
 age:1≤s.Age∧s.Age≤86400
 small:pix s≤500
 len:1≤s.Radars.length∧s.Radars.length≤32
 nd:(s.Radars.map (·.Site.Name)).Nodup
 ok:∀r∈s.Radars,VS r.Site∧beam_CheckSite F r.Site=some 0∧(-3600≤r.Offset.Lo∧r.Offset.Lo≤r.Offset.Hi∧r.Offset.Hi≤3600)∧r.Site.Name≠ByteArray.empty
def X1 (B:List (ByteArray×mosaic_Radar)) (l:List mosaic_Radar):List (ByteArray×mosaic_Radar):=l.foldl (fun B r=>upM B r.Site.Name r) B
theorem Z6:∀(l:List mosaic_Radar) (B:List (ByteArray×mosaic_Radar)) (n:ByteArray),(l.map (·.Site.Name)).Nodup→lkM (X1 B l) n=match l.find? (fun r=>r.Site.Name=n) with|some r=>some r|none=>lkM B n:=by
 intro l
 induction l with
 | nil=>intro B n _;rfl
 | cons x l ih =>
  intro B n hn;rw [List.map_cons,List.nodup_cons] at hn;have e:X1 B (x::l)=X1 (upM B x.Site.Name x) l:=rfl;rw [e,ih _ _ hn.2,List.find?_cons]
  by_cases h:x.Site.Name=n
  ·have hnone:l.find? (fun r=>r.Site.Name=n)=none:=by
    rw [List.find?_eq_none];intro r hr hrn;have hrn:r.Site.Name=n:=by simpa using hrn
    exact hn.1 (by rw [h,←hrn];exact List.mem_map_of_mem (f:=(·.Site.Name)) hr)
   rw [hnone,Qv,if_pos h.symm];simp [h]
  ·rw [Qv,if_neg (fun e=>h e.symm)];simp [h]
theorem Qk {F:Nat} {s:mosaic_Spec} (h:RG F s) (n:ByteArray):lkM (radM s) n=s.Radars.find? (fun r=>r.Site.Name=n):=by
 have:=Z6 s.Radars [] n h.nd;unfold radM;refine this.trans ?_
 cases s.Radars.find? (fun r=>r.Site.Name=n)<;>rfl
theorem RG.gs {F:Nat} {s:mosaic_Spec} (h:RG F s):GS F s:=by
 refine ⟨h.g,h.e,h.age,h.small,fun n x hx=>?_⟩;rw [Qk h] at hx;have h1:=List.mem_of_find?_eq_some hx;have h2:x.Site.Name=n:=by simpa using List.find?_some hx
 obtain ⟨a,b,c,d⟩:=h.ok x h1;exact ⟨a,b,c,h2▸d,h2⟩
theorem RG.lk {F:Nat} {s:mosaic_Spec} (h:RG F s) {r:mosaic_Radar} (hr:r∈s.Radars):lkM (radM s) r.Site.Name=some r:=by
 rw [Qk h]
 cases e:s.Radars.find? (fun x=>x.Site.Name=r.Site.Name) with
 | none =>
  rw [List.find?_eq_none] at e;exact absurd (by simp) (e r hr)
 | some x =>
  have h1:=List.mem_of_find?_eq_some e;have h2:x.Site.Name=r.Site.Name:=by simpa using List.find?_some e
  obtain ⟨i,hi,rfl⟩:=List.mem_iff_getElem.1 h1;obtain ⟨j,hj,rfl⟩:=List.mem_iff_getElem.1 hr;have:=List.pairwise_iff_getElem.1 h.nd;rcases Nat.lt_trichotomy i j with hij|hij|hij
  ·exact absurd (by rw [List.getElem_map,List.getElem_map];exact h2) (this i j (by simpa using hi) (by simpa using hj) hij)
  ·subst hij;rfl
  ·exact absurd (by rw [List.getElem_map,List.getElem_map];exact h2.symm) (this j i (by simpa using hj) (by simpa using hi) hij)
def B5 (s:mosaic_Spec):mosaic_Node:=⟨s,radM s,0,[],0,[]⟩
theorem Xk {F:Nat} {s:mosaic_Spec}:NI F s (B5 s):=by
 refine ⟨rfl,rfl,.nil,?_,rfl,?_⟩
 ·intro p hp;cases hp
 ·intro w l h;cases h
theorem Xi {F:Nat} {s:mosaic_Spec} (h:RG F s):∀(n i:Nat) (B:List (ByteArray×Bool)),i≤s.Radars.length→s.Radars.length-i<n→(∀m b,lkM B m=some b→m∈(s.Radars.take i).map (·.Site.Name))→Ew F s n B (i:Int)=some 0:=by
 have hl:=h.len;intro n
 induction n with
 | zero=>intro i B _ h;omega
 | succ n ih =>
  intro i B hi hn hB;rw [Ew];unfold Ht
  by_cases hc:i<s.Radars.length
  ·obtain ⟨a,b,c,d⟩:=h.ok _ (List.getElem_mem hc);have hnew:lkM B s.Radars[i].Site.Name=none:=by
    cases e:lkM B s.Radars[i].Site.Name with
    | none=>rfl
    | some b =>
     have:=hB _ _ e;rw [List.map_take] at this;obtain ⟨j,hj,hje⟩:=List.mem_take_iff_getElem.1 this;have hp:=List.pairwise_iff_getElem.1 h.nd j i (by simp at hj ⊢;omega) (by simpa using hc) (by omega);exact absurd (by rw [hje];simp) hp
   rw [Ce (dT (by omega)),Cv i s.Radars[i] rfl (List.getElem?_eq_getElem hc),b,sbd,B3 (c:=(0:Int) != 0) rfl,hnew,B3 (c:=(none:Option Bool).getD false) rfl,Rr c,B3 (c:=!true) rfl,ckb (by omega)];refine ih (i+1) _ (by omega) (by omega) (fun m b hm=>?_);rw [Qv] at hm;rw [List.take_succ_eq_append_getElem hc,List.map_append,List.mem_append]
   by_cases e:m=s.Radars[i].Site.Name
   ·exact .inr (by simp [e])
   ·rw [if_neg e] at hm;exact .inl (hB _ _ hm)
  ·rw [B3 (dF (by omega))];rfl
theorem Yc {F:Nat} {s:mosaic_Spec} (hF:100≤F) (h:RG F s):Jh F s=some 0:=by
 have hl:=h.len;unfold Jh;rw [Pb h.g,B3 (c:=(0:Int) != 0) rfl,Rr h.e,Kq h.age,B3 (c:=bif !true then true else !true) rfl,B3 (by
  have:¬((s.Radars.length:Nat):Int)=0:=by omega
  simpa using this),B3 (dF (by omega))]
 exact Xi h F 0 [] (by omega) (by omega) (fun m b hm=>by cases hm)
theorem Zn {F:Nat} {s:mosaic_Spec} {R:List mosaic_Radar} (hR:R.length≤1000):∀(n i:Nat) (B:List (ByteArray×mosaic_Radar)),i≤R.length→R.length-i<n→Gq s R n B (i:Int)=some (.ok (⟨⟨s.Grid,s.Earth,R,s.Age⟩,X1 B (R.drop i),0,[],0,[]⟩,0)):=by
 intro n
 induction n with
 | zero=>intro i B _ h;omega
 | succ n ih =>
  intro i B hi hn;rw [Gq];unfold K3
  by_cases hc:i<R.length
  ·rw [Ce (dT (by omega)),Cv i R[i] rfl (List.getElem?_eq_getElem hc),ckb (by omega),List.drop_eq_getElem_cons hc];exact ih (i+1) _ (by omega) (by omega)
  ·rw [B3 (dF (by omega)),List.drop_eq_nil_of_le (by omega)];rfl
theorem A29 {F:Nat} {s:mosaic_Spec} (hF:100≤F) (h:RG F s):Ga F s=some (.ok (B5 s,0)):=by
 have hl:=h.len;unfold Ga B7;rw [Yc hF h,sbd,B3 (c:=(0:Int) != 0) rfl,Lt (by simp;omega) (by decide),List.nil_append,sbd];exact Zn (F:=F) (by omega) F 0 [] (by omega) (by omega)
end Go.Proofs.YtkbjbnkkfifbmaaGreat
namespace Go.Proofs.YtkbjbnkkfifbmaaGreat
open Go Go.RowKit Go.Eng
set_option maxRecDepth 10000
set_option linter.unusedVariables false
set_option linter.unusedSimpArgs false
def Zs (x:law11_Station):Prop:=(-32768≤x.X∧x.X≤32767)∧(-32768≤x.Y∧x.Y≤32767)∧(0≤x.Z∧x.Z≤65535)∧(0≤x.Rose∧x.Rose≤255)∧(0≤x.Gates∧x.Gates≤255)∧(0≤x.Width∧x.Width≤255)∧(0≤x.Lo∧x.Lo≤65535)∧(0≤x.Hi∧x.Hi≤65535)
def T1 (n:law11_Net):Prop:=(0≤n.Wide∧n.Wide≤255)∧(0≤n.High∧n.High≤255)∧(Zs n.Stations.1∧Zs n.Stations.2.1∧Zs n.Stations.2.2)∧(0≤n.Count∧n.Count≤255)∧(0≤n.Age∧n.Age≤65535)
def okPost (p:law11_Post):Prop:=(0≤p.Radar∧p.Radar≤255)∧(0≤p.Tilt∧p.Tilt≤255)∧(0≤p.Time∧p.Time≤65535)∧(∀y∈p.Vals,0≤y∧y≤65535)∧(0≤p.Wide∧p.Wide≤255)
theorem tm {x y:Int} (h:0≤x) (hy:0<y):0≤x.tmod y∧x.tmod y<y:=⟨Int.tmod_nonneg _ h,Int.tmod_lt_of_pos _ hy⟩
theorem tm2 (x:Int) {y:Int} (hy:0<y):-y<x.tmod y∧x.tmod y<y:=by
 refine ⟨?_,Int.tmod_lt_of_pos _ hy⟩;have:=Int.tmod_lt_of_pos (-x) hy;rw [Int.neg_tmod] at this;omega
def nmR (i:Nat):ByteArray:=if i=0 then ⟨#[97]⟩ else if i=1 then ⟨#[98]⟩ else ⟨#[99]⟩
def mkR (i:Nat) (x:law11_Station):mosaic_Radar:=⟨⟨nmR i,x.X.tmod 4000,x.Y.tmod 4000,x.Z.tmod 1000,1+x.Rose.tmod 3,1+x.Gates.tmod 5,1000,x.Width.tmod 3⟩,⟨x.Lo.tmod 601-300,x.Lo.tmod 601-300+x.Hi.tmod 300⟩⟩
def Rz (n:law11_Net):List mosaic_Radar:=[mkR 0 n.Stations.1,mkR 1 n.Stations.2.1,mkR 2 n.Stations.2.2].take (n.Count.tmod 3).toNat.succ
def Hs (n:law11_Net):mosaic_Spec:=⟨⟨-2000,-2000,1000,1+n.Wide.tmod 4,1+n.High.tmod 4⟩,⟨8000000,9000000⟩,Rz n,1+n.Age.tmod 2000⟩
theorem Np {n:law11_Net} {a b c:Int} (h:T1 n) (i:Nat) (m:Nat) (l:List mosaic_Radar) (hl:l.length≤3) (hi:(i:Int)≤n.Count.tmod 3) :
  C2 n a b c (m+1) l (i:Int)=C2 n a b c m (l++[mkR i (if i=0 then n.Stations.1 else if i=1 then n.Stations.2.1 else n.Stations.2.2)]) ((i+1:Nat):Int):=by
 obtain ⟨_,_,⟨s1,s2,s3⟩,hc,_⟩:=h;have hcm:=tm hc.1 (y:=3) (by omega);rw [C2];unfold F1;rw [ckb (by omega),Gt (by omega),Ce (dT hi)];have hi3:i=0∨i=1∨i=2:=by omega
 rcases hi3 with rfl|rfl|rfl
 ·obtain ⟨⟨a1,b1⟩,⟨a2,b2⟩,⟨a3,b3⟩,⟨a4,b4⟩,⟨a5,b5⟩,⟨a6,b6⟩,⟨a7,b7⟩,⟨a8,b8⟩⟩:=s1;have t1:=tm a7 (y:=601) (by omega);have t2:=tm a8 (y:=300) (by omega);have t3:=tm a4 (y:=3) (by omega);have t4:=tm a5 (y:=5) (by omega);rw [Ce (c:=(((0:Nat):Int)==0)) rfl,ckb (by omega),Gt (by omega),ckb (by omega),Cv 0 _ rfl rfl,ckb (by omega),Gt (by omega),ckb (by omega),Gt (by omega),ckb (by omega),Gt (by omega),ckb (by omega),Gt (by omega),ckb (by omega),ckb (by omega),Gt (by omega),ckb (by omega),ckb (by omega),Gt (by omega),ckb (by omega),Gt (by omega),ckb (by omega),Lt (by simp;omega) (by decide),ckb (by omega)];rfl
 ·obtain ⟨⟨a1,b1⟩,⟨a2,b2⟩,⟨a3,b3⟩,⟨a4,b4⟩,⟨a5,b5⟩,⟨a6,b6⟩,⟨a7,b7⟩,⟨a8,b8⟩⟩:=s2;have t1:=tm a7 (y:=601) (by omega);have t2:=tm a8 (y:=300) (by omega);have t3:=tm a4 (y:=3) (by omega);have t4:=tm a5 (y:=5) (by omega);rw [B3 (c:=(((1:Nat):Int)==0)) rfl,Ce (c:=(((1:Nat):Int)==1)) rfl,ckb (by omega),Gt (by omega),ckb (by omega),Cv 1 _ rfl rfl,ckb (by omega),Gt (by omega),ckb (by omega),Gt (by omega),ckb (by omega),Gt (by omega),ckb (by omega),Gt (by omega),ckb (by omega),ckb (by omega),Gt (by omega),ckb (by omega),ckb (by omega),Gt (by omega),ckb (by omega),Gt (by omega),ckb (by omega),Lt (by simp;omega) (by decide),ckb (by omega)];rfl
 ·obtain ⟨⟨a1,b1⟩,⟨a2,b2⟩,⟨a3,b3⟩,⟨a4,b4⟩,⟨a5,b5⟩,⟨a6,b6⟩,⟨a7,b7⟩,⟨a8,b8⟩⟩:=s3;have t1:=tm a7 (y:=601) (by omega);have t2:=tm a8 (y:=300) (by omega);have t3:=tm a4 (y:=3) (by omega);have t4:=tm a5 (y:=5) (by omega);rw [B3 (c:=(((2:Nat):Int)==0)) rfl,B3 (c:=(((2:Nat):Int)==1)) rfl,Ce (c:=(((2:Nat):Int)==2)) rfl,ckb (by omega),Gt (by omega),ckb (by omega),Cv 2 _ rfl rfl,ckb (by omega),Gt (by omega),ckb (by omega),Gt (by omega),ckb (by omega),Gt (by omega),ckb (by omega),Gt (by omega),ckb (by omega),ckb (by omega),Gt (by omega),ckb (by omega),ckb (by omega),Gt (by omega),ckb (by omega),Gt (by omega),ckb (by omega),Lt (by simp;omega) (by decide),ckb (by omega)];rfl
theorem Rv {n:law11_Net} {a b c:Int} (h:T1 n) (i:Nat) (m:Nat) (l:List mosaic_Radar) (hi:¬(i:Int)≤n.Count.tmod 3) :
  C2 n a b c (m+1) l (i:Int)=some ⟨⟨-2000,-2000,1000,a,b⟩,⟨8000000,9000000⟩,l,c⟩:=by
 obtain ⟨_,_,_,hc,_⟩:=h;rw [C2];unfold F1;rw [ckb (by omega),Gt (by omega),B3 (dF hi)];rfl
theorem A0y {F:Nat} {n:law11_Net} (hF:10≤F) (h:T1 n):Fo F n=some (Hs n):=by
 obtain ⟨m,rfl⟩:∃m,F=m+4:=⟨F-4,by omega⟩;have h':=h;obtain ⟨hw,hh,_,hc,ha⟩:=h';have t1:=tm hw.1 (y:=4) (by omega);have t2:=tm hh.1 (y:=4) (by omega);have t3:=tm ha.1 (y:=2000) (by omega);have t4:=tm hc.1 (y:=3) (by omega);unfold Fo;rw [ckb (by omega),Gt (by omega),ckb (by omega),ckb (by omega),Gt (by omega),ckb (by omega),ckb (by omega),Gt (by omega),ckb (by omega)];have s0:=Np (a:=1+n.Wide.tmod 4) (b:=1+n.High.tmod 4) (c:=1+n.Age.tmod 2000) h 0 (m+3) [] (by simp) (by omega);refine Eq.trans (b:=C2 n (1+n.Wide.tmod 4) (1+n.High.tmod 4) (1+n.Age.tmod 2000) (m+3) ([]++[mkR 0 n.Stations.1]) ((0+1:Nat):Int)) s0 ?_;have hcc:n.Count.tmod 3=0∨n.Count.tmod 3=1∨n.Count.tmod 3=2:=by omega
 rcases hcc with e|e|e
 ·rw [Rv h 1 (m+2) _ (by omega)];unfold Hs Rz;rw [e];rfl
 ·rw [Np h 1 (m+2) _ (by simp) (by omega),Rv h (1+1) (m+1) _ (by omega)];unfold Hs Rz;rw [e];rfl
 ·rw [Np h 1 (m+2) _ (by simp) (by omega),Np h (1+1) (m+1) _ (by simp) (by omega),Rv h (1+1+1) m _ (by omega)];unfold Hs Rz;rw [e];rfl
theorem A3t (F i:Nat):Lv F (nmR i)=some true:=by
 unfold nmR
 split
 ·kernel_rfl
 ·split<;>kernel_rfl
theorem A3s (i:Nat):nmR i≠ByteArray.empty:=by
 unfold nmR
 split
 ·decide
 ·split<;>decide
structure MR (r:mosaic_Radar):Prop where
 step:r.Site.Step=1000
 width:0≤r.Site.Width∧r.Site.Width≤2
 gates:1≤r.Site.Gates∧r.Site.Gates≤5
theorem A2o {F:Nat} {x:law11_Station} (i:Nat) (h:Zs x):VS (mkR i x).Site∧beam_CheckSite F (mkR i x).Site=some 0∧(-3600≤(mkR i x).Offset.Lo∧(mkR i x).Offset.Lo≤(mkR i x).Offset.Hi∧(mkR i x).Offset.Hi≤3600)∧(mkR i x).Site.Name≠ByteArray.empty∧MR (mkR i x):=by
 obtain ⟨⟨a1,b1⟩,⟨a2,b2⟩,⟨a3,b3⟩,⟨a4,b4⟩,⟨a5,b5⟩,⟨a6,b6⟩,⟨a7,b7⟩,⟨a8,b8⟩⟩:=h;have t1:=tm a7 (y:=601) (by omega);have t2:=tm a8 (y:=300) (by omega);have t3:=tm a4 (y:=3) (by omega);have t4:=tm a5 (y:=5) (by omega);have t5:=tm2 x.X (y:=4000) (by omega);have t6:=tm2 x.Y (y:=4000) (by omega);have t7:=tm a3 (y:=1000) (by omega);have t8:=tm a6 (y:=3) (by omega);have hv:VS (mkR i x).Site:=by
  refine ⟨?_,?_,?_,?_,?_,?_,?_⟩<;>(unfold mkR;dsimp only;omega)
 refine ⟨hv,Ta hv (A3t F i),?_,A3s i,?_⟩
 ·unfold mkR;dsimp only;omega
 ·refine ⟨rfl,?_,?_⟩<;>(unfold mkR;dsimp only;omega)
theorem Xb {n:law11_Net} (h:T1 n):∀r∈Rz n,∃i x,Zs x∧r=mkR i x:=by
 obtain ⟨_,_,⟨s1,s2,s3⟩,_,_⟩:=h;intro r hr;have:=List.mem_of_mem_take hr;simp only [List.mem_cons,List.not_mem_nil,or_false] at this;rcases this with rfl|rfl|rfl
 ·exact ⟨_,_,s1,rfl⟩
 ·exact ⟨_,_,s2,rfl⟩
 ·exact ⟨_,_,s3,rfl⟩
theorem A1e {F:Nat} {n:law11_Net} (h:T1 n):RG F (Hs n):=by
 have h':=h;obtain ⟨hw,hh,_,hc,ha⟩:=h';have t1:=tm hw.1 (y:=4) (by omega);have t2:=tm hh.1 (y:=4) (by omega);have t3:=tm ha.1 (y:=2000) (by omega);have t4:=tm hc.1 (y:=3) (by omega);have hm:=L6 (x:=1+n.Wide.tmod 4) (y:=1+n.High.tmod 4) (A:=4) (B:=4) (by omega) (by omega);have hlen:(Rz n).length=(n.Count.tmod 3).toNat.succ:=by
  unfold Rz;rw [List.length_take];simp;omega
 refine ⟨?_,?_,?_,?_,?_,?_,?_⟩
 ·refine ⟨?_,?_,?_,?_,?_⟩<;>(unfold Hs;dsimp only;omega)
 ·unfold VE Hs;dsimp only;omega
 ·unfold Hs;dsimp only;omega
 ·unfold pix Hs;dsimp only;omega
 ·show 1≤(Rz n).length∧(Rz n).length≤32;rw [hlen];omega
 ·show ((Rz n).map (·.Site.Name)).Nodup;unfold Rz;rw [List.map_take];refine List.Nodup.sublist (List.take_sublist _ _) ?_;show [nmR 0,nmR 1,nmR 2].Nodup
  decide
 ·intro r hr;obtain ⟨i,x,hx,rfl⟩:=Xb h r hr;obtain ⟨a,b,c,d,_⟩:=A2o (F:=F) i hx;exact ⟨a,b,c,d⟩
def Nh (p:law11_Post) (i:Nat):Int:=if p.Vals.length=0 then 0 else (p.Vals[i%p.Vals.length]?).getD 0
theorem Xd {p:law11_Post} (h:okPost p) (i:Nat):0≤Nh p i∧Nh p i≤65535:=by
 unfold Nh
 by_cases hl:p.Vals.length=0
 ·rw [if_pos hl];omega
 ·rw [if_neg hl];have hlt:i%p.Vals.length<p.Vals.length:=Nat.mod_lt _ (by omega);rw [List.getElem?_eq_getElem hlt];exact h.2.2.2.1 _ (List.getElem_mem hlt)
def K8 (p:law11_Post) (s:mosaic_Spec):mosaic_Message:=⟨⟨((s.Radars[p.Radar.toNat%s.Radars.length]?).getD default).Site.Name,p.Tilt.tmod 4,p.Time.tmod 2000⟩,(List.range (pix s)).map fun i=>⟨Nh p i,Nh p i+p.Wide⟩⟩
theorem Vi {a b:Nat}:((a:Int)).tmod (b:Int)=((a%b:Nat):Int):=rfl
theorem Zz {F:Nat} {s:mosaic_Spec} {p:law11_Post} {u:mosaic_Radar} {t v:Int} (h:RG F s) (hp:okPost p):∀(n i:Nat) (acc:List api_Span),i≤pix s→pix s-i<n→acc.length=i →
  Cx p s u t v n acc (i:Int)=some ⟨⟨u.Site.Name,t,v⟩,acc++((List.range (pix s)).drop i).map fun i=>⟨Nh p i,Nh p i+p.Wide⟩⟩:=by
 have hpx:=Zv h.gs;have hsm:=h.small;have hw:=hp.2.2.2.2;intro n
 induction n with
 | zero=>intro i _ _ h;omega
 | succ n ih =>
  intro i acc hi hn ha;rw [Cx];unfold G7;rw [hpx.1,ckb (by omega)]
  by_cases hc:i<pix s
  ·rw [Ce (dT (by omega))];have hv:=Xd hp i;have fin:Dr p acc (i:Int) (Cx p s u t v n) (Nh p i)=some ⟨⟨u.Site.Name,t,v⟩,acc++((List.range (pix s)).drop i).map fun i=>⟨Nh p i,Nh p i+p.Wide⟩⟩:=by
    unfold Dr;rw [ckb (by omega),ckb (by omega),Lt (by simp;omega) (by decide),ckb (by omega)];have:=ih (i+1) (acc++[⟨Nh p i,Nh p i+p.Wide⟩]) (by omega) (by omega) (by simp;omega);rw [List.append_assoc,List.singleton_append] at this;rw [List.drop_eq_getElem_cons (show i<(List.range (pix s)).length by simpa using hc),List.map_cons,List.getElem_range];exact this
   by_cases hl:p.Vals.length=0
   ·rw [B3 (dF (by omega)),show (0:Int)=Nh p i by unfold Nh;rw [if_pos hl]];exact fin
   ·have hlt:i%p.Vals.length<p.Vals.length:=Nat.mod_lt _ (by omega);have e:Nh p i=p.Vals[i%p.Vals.length]:=by
     unfold Nh;rw [if_neg hl,List.getElem?_eq_getElem hlt];rfl
    rw [Ce (dT (by omega)),Gt (by omega),Vi,Cv (i%p.Vals.length) (Nh p i) rfl (by rw [e];exact List.getElem?_eq_getElem hlt),ckb (by omega)];exact fin
  ·rw [B3 (dF (by omega)),List.drop_eq_nil_of_le (by simp;omega)];unfold G8;rw [List.map_nil,List.append_nil]
theorem U3 {F:Nat} {s:mosaic_Spec} {p:law11_Post} (hF:600≤F) (h:RG F s) (hp:okPost p):Eb F p s=some (K8 p s):=by
 have hpx:=Zv h.gs;have hsm:=h.small;have hl:=h.len;have hp':=hp;obtain ⟨⟨r1,r2⟩,⟨t1,t2⟩,⟨m1,m2⟩,_,_⟩:=hp';obtain ⟨R,hR⟩:∃R:Nat,p.Radar=R:=⟨p.Radar.toNat,by omega⟩;have hlt:R%s.Radars.length<s.Radars.length:=Nat.mod_lt _ (by omega);unfold Eb;rw [ckb (by omega),Gt (by omega),hR,Vi,Cv (R%s.Radars.length) s.Radars[R%s.Radars.length] rfl (List.getElem?_eq_getElem hlt),ckb (by omega),Gt (by omega),ckb (by omega),Gt (by omega)];have:=Zz (u:=s.Radars[R%s.Radars.length]) (t:=p.Tilt.tmod 4) (v:=p.Time.tmod 2000) h hp F 0 [] (by omega) (by omega) rfl;rw [List.drop_zero,List.nil_append] at this;refine Eq.trans this ?_;unfold K8;rw [hR,Int.toNat_natCast,List.getElem?_eq_getElem hlt];rfl
theorem Wb {F:Nat} {s:mosaic_Spec} {p:law11_Post} (h:RG F s) (hp:okPost p):okM s (K8 p s)∧(0≤(K8 p s).Key.Tilt∧(K8 p s).Key.Tilt≤3)∧(0≤(K8 p s).Key.Time∧(K8 p s).Key.Time≤1999):=by
 have hl:=h.len;have hlt:p.Radar.toNat%s.Radars.length<s.Radars.length:=Nat.mod_lt _ (by omega);have hw:=hp.2.2.2.2;have a1:=tm hp.2.1.1 (y:=4) (by omega);have a2:=tm hp.2.2.1.1 (y:=2000) (by omega);have k1:0≤(K8 p s).Key.Tilt∧(K8 p s).Key.Tilt≤3:=by unfold K8;dsimp only;omega
 have k2:0≤(K8 p s).Key.Time∧(K8 p s).Key.Time≤1999:=by unfold K8;dsimp only;omega
 have hnm:(K8 p s).Key.Name=s.Radars[p.Radar.toNat%s.Radars.length].Site.Name:=by unfold K8;rw [List.getElem?_eq_getElem hlt];rfl
 have hlk:=h.lk (r:=s.Radars[p.Radar.toNat%s.Radars.length]) (List.getElem_mem hlt);rw [←hnm] at hlk;refine ⟨⟨⟨⟨_,hlk⟩,by omega,by omega⟩,?_,?_⟩,k1,k2⟩
 ·unfold K8;simp
 ·intro v hv;unfold K8 at hv;simp only [List.mem_map] at hv;obtain ⟨i,_,rfl⟩:=hv;have:=Xd hp i;dsimp only;omega
end Go.Proofs.YtkbjbnkkfifbmaaGreat
namespace Go.Proofs.YtkbjbnkkfifbmaaGreat
open Go Go.RowKit Go.Eng
set_option maxRecDepth 10000
set_option linter.unusedVariables false
set_option linter.unusedSimpArgs false
theorem Rt {α:Type} {c d:α→α→Int} {x y:α} (h:Qa c d x y=0):c x y=0∧d x y=0:=by
 unfold Qa at h
 by_cases a:c x y=0
 ·rw [if_neg (by simpa using a)] at h;exact ⟨a,h⟩
 ·rw [if_pos a] at h;exact absurd h a
theorem A0i {a b:Int} (h:c3 a b=0):a=b:=by
 unfold c3 at h
 repeat' split at h
 all_goals first|omega|simp at h
theorem baL {a b:ByteArray} (h:a.toList=b.toList):a=b:=by
 apply U9.1;rw [←Mp,h];exact beq_self_eq_true _
theorem Yl {x y:BK} (h:Tl x y=0):x.2=y.2:=by
 rw [Wt] at h;have h1:=(Rt (Rt h).2).2;obtain ⟨h2,h3⟩:=Rt h1;obtain ⟨h4,h5⟩:=Rt h3;have e1:=A0i h2;have e2:=baL (Mh.1 h4);have e3:=A0i h5;obtain ⟨xb,n,t,u⟩:=x;obtain ⟨yb,n',t',u'⟩:=y;dsimp only at e1 e2 e3 ⊢;rw [e1,e2,e3]
theorem Zw {F:Nat} {s:mosaic_Spec} {N N':mosaic_Node} {t:Int} {p:Nat} {x x':mosaic_Pixel} (G:mosaic_Key→Prop) (hu:∀k,¬G k→(k∈Jm s N t↔k∈Jm s N' t)) (hk:∀k,¬G k→k∈Jm s N t→kl N.kept k=kl N'.kept k)
  (hx:Ra ((Jm s N t).map (D6 F s N)) p x) (hx':Ra ((Jm s N' t).map (D6 F s N')) p x') (g:¬G x.Key) (g':¬G x'.Key):x=x':=by
 rcases hx with ⟨rfl,h1⟩|⟨u,hm,b,v,h1,h2,h3,rfl,h5⟩
 ·rcases hx' with ⟨rfl,_⟩|⟨u',hm',b',v',h1',h2',h3',rfl,h5'⟩
  ·rfl
  ·obtain ⟨k,hk',rfl⟩:=List.mem_map.1 hm';exact absurd h2' (h1 (D6 F s N k) (List.mem_map.2 ⟨k,(hu k g').2 hk',rfl⟩) b' h1')
 ·obtain ⟨k,hk1,rfl⟩:=List.mem_map.1 hm;have hk2:=(hu k g).1 hk1;rcases hx' with ⟨rfl,h1'⟩|⟨u',hm',b',v',h1',h2',h3',rfl,h5'⟩
  ·exact absurd h2 (h1' (D6 F s N' k) (List.mem_map.2 ⟨k,hk2,rfl⟩) b h1)
  ·obtain ⟨k',hk1',rfl⟩:=List.mem_map.1 hm';have hk2':=(hu k' g').2 hk1';have a1:=h5 (D6 F s N k') (List.mem_map.2 ⟨k',hk2',rfl⟩) b' h1' h2';have a2:=h5' (D6 F s N' k) (List.mem_map.2 ⟨k,hk2,rfl⟩) b h1 h2;have e:Tl (b,k) (b',k')=0:=by
    rcases betC_ok.ay (b,k) (b',k') with h|h|h
    ·exact absurd h a2
    ·exact h
    ·exact absurd h a1
   have ek:k=k':=Yl e;subst ek;have ev:(D6 F s N k).vals=(D6 F s N' k).vals:=by
    show ((kl N.kept k)[0]?).getD []=((kl N'.kept k)[0]?).getD [];rw [hk k g hk1]
   rw [ev,h3'] at h3
   cases h3
   rfl
theorem Vw {N:mosaic_Node} {m:mosaic_Message} {r:Nat} {k:mosaic_Key} (h:k≠m.Key):kl (Qj N m r).kept k=kl N.kept k:=by
 unfold kl;show (lkM (upM N.kept m.Key _) k).getD []=_;rw [Qv,if_neg h]
def fgN (N:mosaic_Node) (h:Int):mosaic_Node:=⟨N.spec,N.radars,h,N.kept.filter (fun p=>!Na h p),N.count-Ke h N.kept,N.looks⟩
theorem A2q {l:List mosaic_Key} (h:l.Nodup):ndK l=true:=by
 induction l with
 | nil=>rfl
 | cons k l ih =>
  rw [List.nodup_cons] at h;have e:l.contains k=false:=by
   cases hc:l.contains k with
   | false=>rfl
   | true=>exact absurd (List.contains_iff_mem.1 hc) h.1
  show (!l.contains k&&ndK l)=true;rw [e,ih h.2];rfl
theorem Wn (h:Int) (B:List (mosaic_Key×List (List api_Span))):tot (B.filter fun p=>!Na h p)+Ke h B=tot B:=by
 induction B with
 | nil=>rfl
 | cons p B ih =>
  unfold tot Ke at ih ⊢;simp only [List.filter_cons,List.map_cons,List.sum_cons]
  cases Na h p with
  | true =>
   simp only [Bool.not_true,if_true,Bool.false_eq_true,if_false,List.map_cons,List.sum_cons];omega
  | false =>
   simp only [Bool.not_false,if_true,Bool.false_eq_true,if_false,List.map_cons,List.sum_cons];omega
theorem A21 {h:Int} {B:List (mosaic_Key×List (List api_Span))} {k:mosaic_Key}:lkM (B.filter fun p=>!Na h p) k=if k.Time<h then none else lkM B k:=by
 induction B with
 | nil=>split<;>rfl
 | cons p B ih =>
  rw [List.filter_cons];show _=if k.Time<h then none else (if k=p.1 then some p.2 else lkM B k)
  by_cases ho:p.1.Time<h
  ·have e:Na h p=true:=dT ho;rw [e,if_neg (by simp),ih]
   by_cases hk:k.Time<h
   ·rw [if_pos hk,if_pos hk]
   ·rw [if_neg hk,if_neg hk,if_neg (fun e:k=p.1=>hk (e▸ho))]
  ·have e:Na h p=false:=dF ho;rw [e,if_pos (by simp)];show (if k=p.1 then some p.2 else lkM (B.filter fun p=>!Na h p) k)=_
   by_cases hk:k=p.1
   ·rw [if_pos hk,if_pos hk,if_neg (by rw [hk];exact ho)]
   ·rw [if_neg hk,if_neg hk,ih]
theorem NI.fg {F:Nat} {s:mosaic_Spec} {N:mosaic_Node} (hN:NI F s N) (h:Int):NI F s (fgN N h):=by
 refine ⟨hN.spec,hN.radars,?_,?_,?_,hN.looks⟩
 ·exact hN.nd.sublist (List.Sublist.map _ List.filter_sublist)
 ·intro p hp;exact hN.ok p (List.mem_filter.1 hp).1
 ·show N.count-Ke h N.kept=((tot (N.kept.filter fun p=>!Na h p):Nat):Int);have:=Wn h N.kept;rw [hN.count];omega
theorem Zc {N:mosaic_Node} {h:Int} {k:mosaic_Key} (hk:¬k.Time<h):kl (fgN N h).kept k=kl N.kept k:=by
 unfold kl;show (lkM (N.kept.filter fun p=>!Na h p) k).getD []=_;rw [A21,if_neg hk]
theorem Vv {N:mosaic_Node} {h:Int} {k:mosaic_Key} (hk:k.Time<h):kl (fgN N h).kept k=[]:=by
 unfold kl;show (lkM (N.kept.filter fun p=>!Na h p) k).getD []=_;rw [A21,if_pos hk];rfl
theorem U0 {F:Nat} {s:mosaic_Spec} {N:mosaic_Node} {h:Int} (hN:NI F s N) (ht:tot N.kept<900):F4 F N h=some ((Ke h N.kept:Int),fgN N h):=by
 have h1:=hN.count;have h2:=Wn h N.kept;unfold F4;rw [if_pos ⟨A2q hN.nd,by omega,by omega,by omega⟩];rfl
theorem Sg {F:Nat} {s:mosaic_Spec} {N:mosaic_Node} {h:Int} (hN:NI F s N) (ht:tot N.kept<900) (hh:0≤h∧h≤4294967296) :
  Bf F N h=some (if h≤N.horizon then (0,0,N) else ((Ke h N.kept:Int),0,fgN N h)):=by
 unfold Bf Ak;rw [sbd,cond_false,Kq hh,B3 (c:=!true) rfl]
 by_cases hc:h≤N.horizon
 ·rw [Ce (dT hc),if_pos hc]
 ·rw [B3 (dF hc),if_neg hc,U0 hN ht,sbd]
end Go.Proofs.YtkbjbnkkfifbmaaGreat
namespace Go.Proofs.YtkbjbnkkfifbmaaGreat
open Go Go.RowKit Go.Eng
set_option maxRecDepth 10000
set_option linter.unusedVariables false
set_option linter.unusedSimpArgs false
theorem cmpS_ok:C3 Jr:=Pv (Ui fun x:api_Span=>x.Lo) (Ui fun x:api_Span=>x.Hi)
theorem Yu {x y:api_Span} (h:Jr x y=0):x=y:=by
 obtain ⟨h1,h2⟩:=Rt (c:=fun x y:api_Span=>c3 x.Lo y.Lo) (d:=fun x y:api_Span=>c3 x.Hi y.Hi) h;obtain ⟨a,b⟩:=x;obtain ⟨c,d⟩:=y;have:=A0i h1;have:=A0i h2;dsimp only at *
 subst_vars
 rfl
theorem Pi (x:List api_Span):Eg x x=0:=by
 induction x with
 | nil=>rfl
 | cons a x ih =>
  show (if Jr a a≠0 then Jr a a else Eg x x)=0;rw [if_neg (by simpa using cmpS_ok.rf a),ih]
theorem Yv:∀{x y:List api_Span},Eg x y=0→x=y
 | [],[],_=>rfl
 | [],_::_,h=>by simp [Eg] at h
 | _::_,[],h=>by simp [Eg] at h
 | a::x,b::y,h=>by
  have h:(if Jr a b≠0 then Jr a b else Eg x y)=0:=h
  by_cases c:Jr a b=0
  ·rw [if_neg (by simpa using c)] at h;rw [Yu c,Yv h]
  ·rw [if_pos c] at h;exact absurd h c
theorem Nj:∀{x y z:List api_Span},Eg x y<0→Eg y z<0→Eg x z<0
 | [],[],_,h,_=>by simp [Eg] at h
 | [],_::_,[],_,h=>by simp [Eg] at h
 | [],_::_,_::_,_,_=>by simp [Eg]
 | _::_,[],_,h,_=>by simp [Eg] at h
 | _::_,_::_,[],_,h=>by simp [Eg] at h
 | a::x,b::y,c::z,h,k=>by
  have h:(if Jr a b≠0 then Jr a b else Eg x y)<0:=h;have k:(if Jr b c≠0 then Jr b c else Eg y z)<0:=k;show (if Jr a c≠0 then Jr a c else Eg x z)<0
  by_cases p:Jr a b=0
  ·rw [if_neg (by simpa using p)] at h;rw [cmpS_ok.e1 a b c p]
   by_cases q:Jr b c=0
   ·rw [if_neg (by simpa using q)] at k ⊢;exact Nj h k
   ·rw [if_pos q] at k ⊢;exact k
  ·rw [if_pos p] at h
   by_cases q:Jr b c=0
   ·rw [←cmpS_ok.e2 a b c q,if_pos p];exact h
   ·rw [if_pos q] at k;have:=cmpS_ok.tr a b c h k;rw [if_pos (by omega)];exact this
theorem Wu:∀{x y:List api_Span},Eg x y<0∨Eg x y=0∨Eg y x<0
 | [],[]=>.inr (.inl rfl)
 | [],_::_=>.inl (by simp [Eg])
 | _::_,[]=>.inr (.inr (by simp [Eg]))
 | a::x,b::y=>by
  show (if Jr a b≠0 then Jr a b else Eg x y)<0∨(if Jr a b≠0 then Jr a b else Eg x y)=0∨(if Jr b a≠0 then Jr b a else Eg y x)<0;rcases cmpS_ok.ay a b with h|h|h
  ·left;rw [if_pos (by omega)];exact h
  ·have h':Jr b a=0:=by rw [Yu h];exact cmpS_ok.rf _
   rw [if_neg (by simpa using h),if_neg (by simpa using h')];exact Wu
  ·right;right;rw [if_pos (by omega)];exact h
theorem A0l {x y:List api_Span} (h:Eg x y<0):¬Eg y x<0:=fun k=>by
 have:=Nj h k;rw [Pi] at this;omega
abbrev Srt (l:List (List api_Span)):Prop:=l.Pairwise (fun x y=>Eg x y<0)
theorem A05:∀{l k:List (List api_Span)},Srt l→Srt k→(∀x,x∈l↔x∈k)→l=k
 | [],[],_,_,_=>rfl
 | [],b::k,_,_,h=>by cases (h b).2 (.head _)
 | a::l,[],_,_,h=>by cases (h a).1 (.head _)
 | a::l,b::k,hl,hk,h=>by
  have hl':=List.pairwise_cons.1 hl;have hk':=List.pairwise_cons.1 hk;have e:a=b:=by
   rcases List.mem_cons.1 ((h a).1 (.head _)) with e|e
   ·exact e
   ·rcases List.mem_cons.1 ((h b).2 (.head _)) with e'|e'
    ·exact e'.symm
    ·exact absurd (hl'.1 b e') (A0l (hk'.1 a e))
  subst e;rw [A05 hl'.2 hk'.2 fun x=>?_];constructor
  ·intro hx;rcases List.mem_cons.1 ((h x).1 (.tail _ hx)) with e|e
   ·subst e;have:=hl'.1 _ hx;rw [Pi] at this;omega
   ·exact e
  ·intro hx;rcases List.mem_cons.1 ((h x).2 (.tail _ hx)) with e|e
   ·subst e;have:=hk'.1 _ hx;rw [Pi] at this;omega
   ·exact e
def has (N:mosaic_Node) (m:mosaic_Message):Prop:=m.Vals∈kl N.kept m.Key
structure SN (F:Nat) (s:mosaic_Spec) (N:mosaic_Node):Prop where
 ni:NI F s N
 so:∀k,Srt (kl N.kept k)
 vs:∀k,∀v∈kl N.kept k,∀x∈v,0≤x.Lo∧x.Lo≤x.Hi∧x.Hi≤1000000
theorem SN.okm {F:Nat} {s:mosaic_Spec} {N:mosaic_Node} (h:SN F s N) {m:mosaic_Message} (hm:has N m):okM s m:=by
 have hk:m.Key∈ksN N:=by
  rw [Tz];unfold has kl at hm
  cases e:lkM N.kept m.Key with
  | none=>rw [e] at hm;cases hm
  | some l=>exact ⟨l,rfl⟩
 exact ⟨(h.ni.key hk).1,h.ni.kl_ok _ _ hm,h.vs _ _ hm⟩
theorem SN.kl_eq {F:Nat} {s:mosaic_Spec} {N N':mosaic_Node} (h:SN F s N) (h':SN F s N') (e:∀m,has N m↔has N' m) (k:mosaic_Key):kl N.kept k=kl N'.kept k :=
 A05 (h.so k) (h'.so k) fun x=>e ⟨k,x⟩
theorem A1f {l:List (List api_Span)} {r:Nat} {v:List api_Span} (hl:Srt l) (hr:r≤l.length) (h1:r=0∨∃x,l[r-1]? = some x∧Eg x v<0) (h2:r=l.length∨∃x,l[r]? = some x∧Eg v x<0):Srt (N5 l r v):=by
 unfold N5;have lo:∀x∈l.take r,Eg x v<0:=by
  intro x hx;obtain ⟨i,hi,rfl⟩:=List.mem_take_iff_getElem.1 hx;rcases h1 with h1|⟨y,hy,hlt⟩
  ·omega
  ·obtain ⟨hy1,rfl⟩:=List.getElem?_eq_some_iff.1 hy;rcases Nat.lt_or_ge i (r-1) with h|h
   ·exact Nj (List.pairwise_iff_getElem.1 hl i (r-1) (by omega) hy1 h) hlt
   ·have:i=r-1:=by omega
    subst this;exact hlt
 have hi:∀x∈l.drop r,Eg v x<0:=by
  intro x hx;obtain ⟨i,hi,rfl⟩:=List.mem_drop_iff_getElem.1 hx;rcases h2 with h2|⟨y,hy,hlt⟩
  ·omega
  ·obtain ⟨hy1,rfl⟩:=List.getElem?_eq_some_iff.1 hy;rcases Nat.eq_zero_or_pos i with h|h
   ·subst h;exact hlt
   ·exact Nj hlt (List.pairwise_iff_getElem.1 hl r (r+i) hy1 (by omega) (by omega))
 refine List.pairwise_append.2 ⟨List.pairwise_append.2 ⟨hl.sublist (List.take_sublist _ _),List.pairwise_singleton _ _,fun x hx y hy=>?_⟩,hl.sublist (List.drop_sublist _ _),fun x hx y hy=>?_⟩
 ·rw [List.mem_singleton.1 hy];exact lo x hx
 ·rcases List.mem_append.1 hx with hx|hx
  ·exact Nj (lo x hx) (hi y hy)
  ·rw [List.mem_singleton.1 hx];exact hi y hy
theorem N6 {N:mosaic_Node} {m:mosaic_Message} {r:Nat}:kl (Qj N m r).kept m.Key=N5 (kl N.kept m.Key) r m.Vals:=by
 unfold kl;show (lkM (upM N.kept m.Key _) m.Key).getD []=_;rw [X9];rfl
theorem R5 {N:mosaic_Node} {m x:mosaic_Message} {r:Nat}:has (Qj N m r) x↔x=m∨has N x:=by
 unfold has
 by_cases h:x.Key=m.Key
 ·rw [h,N6,Q8];constructor
  ·rintro (e|e)
   ·left;obtain ⟨k,v⟩:=x;obtain ⟨k',v'⟩:=m;dsimp only at *;rw [h,e]
   ·exact .inr e
  ·rintro (e|e)
   ·left;rw [e]
   ·exact .inr e
 ·rw [Vw h];exact ⟨.inr,fun e=>e.elim (fun e=>absurd (by rw [e]) h) id⟩
theorem SN.put {F:Nat} {s:mosaic_Spec} {N:mosaic_Node} {m:mosaic_Message} {r:Nat} (h:SN F s N) (hm:okM s m) (hr:r≤(kl N.kept m.Key).length) (h1:r=0∨∃x,(kl N.kept m.Key)[r-1]? = some x∧Eg x m.Vals<0) (h2:r=(kl N.kept m.Key).length∨∃x,(kl N.kept m.Key)[r]? = some x∧Eg m.Vals x<0):SN F s (Qj N m r):=by
 refine ⟨h.ni.put hm hr,fun k=>?_,fun k v hv=>?_⟩
 ·by_cases e:k=m.Key
  ·subst e;rw [N6];exact A1f (h.so _) hr h1 h2
  ·rw [Vw e];exact h.so k
 ·by_cases e:k=m.Key
  ·subst e;rw [N6] at hv;rcases Q8.1 hv with rfl|hv
   ·exact hm.vals
   ·exact h.vs _ _ hv
  ·rw [Vw e] at hv;exact h.vs _ _ hv
theorem Qi {F:Nat} {s:mosaic_Spec} {N:mosaic_Node} {m:mosaic_Message} (hF:1000≤F) (hs:GS F s) (h:SN F s N) (ht:tot N.kept<900) :
  ∃(r:Nat) (b:Bool),Bw F N m=some ((r:Int),b)∧r≤(kl N.kept m.Key).length∧(b=true↔has N m)∧(b=false→okM s m→SN F s (Qj N m r)):=by
 have h2:=hs.small;have h3:=Zd N.kept m.Key;obtain ⟨r,b,e,r1,r2,r3,r4⟩:=Zx (F:=F) (by omega) N m (by omega) (fun x hx=>by rw [h.ni.kl_ok _ x hx];omega);have lo:∀i,i<r→∀x,(kl N.kept m.Key)[i]? = some x→Eg x m.Vals<0:=by
  intro i hi x hx;obtain ⟨hx1,rfl⟩:=List.getElem?_eq_some_iff.1 hx;rcases r3 with r3|⟨y,hy,hlt⟩
  ·omega
  ·obtain ⟨hy1,rfl⟩:=List.getElem?_eq_some_iff.1 hy;rcases Nat.lt_or_ge i (r-1) with h'|h'
   ·exact Nj (List.pairwise_iff_getElem.1 (h.so m.Key) i (r-1) hx1 hy1 h') hlt
   ·have:i=r-1:=by omega
    subst this;exact hlt
 have hb:b=true↔has N m:=by
  rw [r2];constructor
  ·rintro ⟨x,hx,hc⟩;have:=Yv hc;subst this;exact List.mem_iff_getElem?.2 ⟨r,hx⟩
  ·intro hm;obtain ⟨i,hi⟩:=List.mem_iff_getElem?.1 hm;have hir:r≤i:=by
    rcases Nat.lt_or_ge i r with h'|h'
    ·have:=lo i h' _ hi;rw [Pi] at this;omega
    ·exact h'
   obtain ⟨hi1,hi2⟩:=List.getElem?_eq_some_iff.1 hi;rcases r4 with r4|⟨y,hy,hn⟩
   ·omega
   ·rcases Nat.eq_or_lt_of_le hir with e|e
    ·subst e;exact ⟨_,hi,Pi _⟩
    ·obtain ⟨hy1,rfl⟩:=List.getElem?_eq_some_iff.1 hy;have:=List.pairwise_iff_getElem.1 (h.so m.Key) r i hy1 hi1 e;rw [hi2] at this;exact absurd this hn
 refine ⟨r,b,e,r1,hb,fun hf hm=>h.put hm r1 r3 ?_⟩;rcases r4 with r4|⟨y,hy,hn⟩
 ·exact .inl r4
 ·right;refine ⟨y,hy,?_⟩;rcases Wu (x:=y) (y:=m.Vals) with c|c|c
  ·exact absurd c hn
  ·have:b=true:=r2.2 ⟨y,hy,c⟩;rw [hf] at this;cases this
  ·exact c
end Go.Proofs.YtkbjbnkkfifbmaaGreat
namespace Go.Proofs.YtkbjbnkkfifbmaaGreat
open Go Go.RowKit Go.Eng
set_option maxRecDepth 10000
set_option linter.unusedVariables false
set_option linter.unusedSimpArgs false
theorem Kr {F:Nat} {s:mosaic_Spec} {N:mosaic_Node} {m:mosaic_Message} (hF:1000≤F) (hs:GS F s) (h:SN F s N) (hm:okM s m) (hc:tot N.kept<256) :
  ∃(b:Bool) (e:Int) (N':mosaic_Node),Bd F N m=some (b,e,N')∧SN F s N'∧N'.horizon=N.horizon∧tot N'.kept≤tot N.kept+1∧(∀x,has N' x↔has N x∨(x=m∧N.horizon≤m.Key.Time)) ∧
   (N.horizon≤m.Key.Time→e=0∧(b=false↔has N m)∧has N' m)∧(¬N.horizon≤m.Key.Time→e=17∧b=false∧N'=N)∧(has N m→N.horizon≤m.Key.Time→N'=N):=by
 have h4:=h.ni.count;unfold Bd Ak;rw [sbd,cond_false,A0d hF hs h.ni hm,sbd,B3 (c:=(0:Int) != 0) rfl]
 by_cases ht:N.horizon≤m.Key.Time
 ·obtain ⟨r,b,e,r1,r2,r3⟩:=Qi (m:=m) hF hs h (by omega);rw [B3 (dF (by omega)),e,sbd]
  cases b with
  | true =>
   have hh:=r2.1 rfl;refine ⟨false,0,N,rfl,h,rfl,by omega,fun x=>⟨.inl,fun e=>e.elim id fun e=>by rw [e.1];exact hh⟩,fun _=>⟨rfl,⟨fun _=>hh,fun _=>rfl⟩,hh⟩,fun hn=>absurd ht hn,fun _ _=>rfl⟩
  | false =>
   have hh:¬has N m:=fun x=>by have:=r2.2 x;cases this
   have hS:=r3 rfl hm;rw [B3 (c:=((r:Int),false).2) rfl,B3 (dF (by omega)),We hF hs h.ni hm (by omega) e r1,sbd];refine ⟨true,0,Qj N m r,rfl,hS,rfl,?_,fun x=>?_,fun _=>⟨rfl,⟨fun e=>(by cases e),fun e=>absurd e hh⟩,R5.2 (.inl rfl)⟩,fun hn=>absurd ht hn,fun e=>absurd e hh⟩
   ·have h1:=hS.ni.count;have h2:(Qj N m r).count=N.count+1:=rfl;omega
   ·rw [R5];exact ⟨fun e=>e.elim (fun e=>.inr ⟨e,ht⟩) .inl,fun e=>e.elim .inr fun e=>.inl e.1⟩
 ·rw [Ce (dT (by omega))];exact ⟨false,17,N,rfl,h,rfl,by omega,fun x=>⟨.inl,fun e=>e.elim id fun e=>absurd e.2 ht⟩,fun hn=>absurd hn ht,fun _=>⟨rfl,rfl,rfl⟩,fun _ hn=>absurd hn ht⟩
theorem Rq {N:mosaic_Node} {h:Int} {x:mosaic_Message}:has (fgN N h) x↔has N x∧h≤x.Key.Time:=by
 unfold has
 by_cases hk:x.Key.Time<h
 ·rw [Vv hk];exact ⟨fun e=>(by cases e),fun e=>by omega⟩
 ·rw [Zc hk];exact ⟨fun e=>⟨e,by omega⟩,fun e=>e.1⟩
theorem SN.fg {F:Nat} {s:mosaic_Spec} {N:mosaic_Node} (hN:SN F s N) (h:Int):SN F s (fgN N h):=by
 refine ⟨hN.ni.fg h,fun k=>?_,fun k v hv=>?_⟩
 ·by_cases hk:k.Time<h
  ·rw [Vv hk];exact .nil
  ·rw [Zc hk];exact hN.so k
 ·by_cases hk:k.Time<h
  ·rw [Vv hk] at hv;cases hv
  ·rw [Zc hk] at hv;exact hN.vs k v hv
theorem SN.lk {F:Nat} {s:mosaic_Spec} {N:mosaic_Node} (h:SN F s N) {L:List (mosaic_where×List api_Span)} (hL:LV F s L):SN F s ⟨N.spec,N.radars,N.horizon,N.kept,N.count,L⟩:=⟨⟨h.ni.spec,h.ni.radars,h.ni.nd,h.ni.ok,h.ni.count,hL⟩,h.so,h.vs⟩
theorem Qn (h:Int) (B:List (mosaic_Key×List (List api_Span))):tot (B.filter fun p=>!Na h p)≤tot B:=by
 have:=Wn h B;omega
theorem P0 {F:Nat} {s:mosaic_Spec} {N:mosaic_Node} {h:Int} (hN:SN F s N) (h0:N.horizon=0) (ht:tot N.kept<900) (hh:0≤h∧h≤4294967296) :
  ∃g N',Bf F N h=some (g,0,N')∧SN F s N'∧N'.horizon=h∧tot N'.kept≤tot N.kept∧(∀x,has N' x↔has N x∧h≤x.Key.Time):=by
 by_cases hc:h≤N.horizon
 ·refine ⟨0,N,by rw [Sg hN.ni ht hh,if_pos hc],hN,by omega,Nat.le_refl _,fun x=>⟨fun e=>⟨e,?_⟩,fun e=>e.1⟩⟩;have:=(hN.okm e).key.2.2.1;omega
 ·exact ⟨_,fgN N h,by rw [Sg hN.ni ht hh,if_neg hc],hN.fg h,rfl,Qn h N.kept,fun x=>Rq⟩
instance lawfulBA:LawfulBEq ByteArray where
 eq_of_beq:=fun h=>(baE _ _).1 h
 rfl:=(baE _ _).2 rfl
theorem A00 {l:List mosaic_Radar} (hl:l.length≤1000):∀(n i:Nat),i≤l.length→l.length-i<n→Au l l n (i:Int)=some true:=by
 intro n
 induction n with
 | zero=>intro i _ h;omega
 | succ n ih =>
  intro i hi hn;rw [Au];unfold Bi
  by_cases hc:i<l.length
  ·rw [Ce (dT (by omega)),Cv i l[i] rfl (List.getElem?_eq_getElem hc),Cv i l[i] rfl (List.getElem?_eq_getElem hc),B3 (by simp),ckb (by omega)];exact ih (i+1) hc (by omega)
  ·rw [B3 (dF (by omega))];rfl
theorem Rk {F:Nat} {s:mosaic_Spec} (hl:s.Radars.length≤1000) (hF:s.Radars.length<F):F3 F s s=some true:=by
 have e:B8 F s.Radars s.Radars=some true:=by
  unfold B8;rw [B3 (by simp)];exact A00 hl F 0 (Nat.zero_le _) (by omega)
 unfold F3;have e2:(bif (bif (((s.Grid.X:Int)==s.Grid.X)&&(((s.Grid.Y:Int)==s.Grid.Y)&&(((s.Grid.Size:Int)==s.Grid.Size)&&(((s.Grid.Wide:Int)==s.Grid.Wide)&&(((s.Grid.High:Int)==s.Grid.High)&&true))))) then (((s.Earth.Lo:Int)==s.Earth.Lo)&&(((s.Earth.Hi:Int)==s.Earth.Hi)&&true)) else false) then (s.Age==s.Age) else false)=true:=by simp
 rw [e2,e];rfl
theorem Xw {F:Nat} {s:mosaic_Spec} {p0:mosaic_Node} {Y:Int×mosaic_Node} {M:List mosaic_Message} (hF:1000≤F) (hs:GS F s) (hM:∀m∈M,okM s m) (hl:M.length≤200) (hY:0≤Y.2.count∧Y.2.count≤300) :
  ∀(n i:Nat) (C:mosaic_Node),i≤M.length→M.length-i<n→SN F s C→tot C.kept+(M.length-i)≤256 →
   ∃C',Cc F p0 Y M n C.spec.Grid.X C.spec.Grid.Y C.horizon C.count C.spec.Grid.Size C.spec.Grid.Wide C.spec.Grid.High C.spec.Earth.Lo C.spec.Earth.Hi C.spec.Radars C.spec.Age C.kept C.radars C.looks (i:Int)=some (C'.count-Y.2.count,0,⟨p0.spec,C'.radars,C'.horizon,C'.kept,C'.count,p0.looks⟩)∧SN F s C'∧C'.horizon=C.horizon∧tot C'.kept≤tot C.kept+(M.length-i) ∧
    (∀x,has C' x↔has C x∨(x∈M.drop i∧C.horizon≤x.Key.Time))∧((∀x∈M.drop i,has C x)→C'=C):=by
 intro n
 induction n with
 | zero=>intro i C _ h;omega
 | succ n ih =>
  intro i C hi hn hC hb;have hcc:=hC.ni.count;rw [Cc];unfold Ep
  by_cases hc:i<M.length
  ·have hm:=hM _ (List.getElem_mem hc);obtain ⟨r,b,e,r1,r2,r3⟩:=Qi (m:=M[i]) hF hs hC (by omega);rw [Ce (dT (by omega)),Cv i M[i] rfl (List.getElem?_eq_getElem hc)];rw [show (mosaic_Node.mk (mosaic_Spec.mk (api_Grid.mk C.spec.Grid.X C.spec.Grid.Y C.spec.Grid.Size C.spec.Grid.Wide C.spec.Grid.High) (api_Span.mk C.spec.Earth.Lo C.spec.Earth.Hi) C.spec.Radars C.spec.Age) C.radars C.horizon C.kept C.count C.looks)=C from rfl];rw [e,sbd];have ed:=List.drop_eq_getElem_cons hc
   by_cases hg:b=false∧C.horizon≤M[i].Key.Time
   ·obtain ⟨hb0,ht⟩:=hg;have hn2:¬has C M[i]:=fun x=>by have:=r2.2 x;rw [hb0] at this;cases this
    have hS:=r3 hb0 hm;have hcn:(Qj C M[i] r).count=C.count+1:=rfl;have hSc:=hS.ni.count;rw [Ce (c:=bif (!((r:Int),b).2) then (decide (M[i].Key.Time≥C.horizon)) else false) (by rw [show ((r:Int),b).2=b from rfl,hb0];exact dT ht),We hF hs hC.ni hm (by omega) e r1,sbd];unfold Cp;rw [ckb (by omega)];obtain ⟨C',q1,q2,q3,q4,q5,q6⟩:=ih (i+1) (Qj C M[i] r) hc (by omega) hS (by omega);refine ⟨C',q1,q2,q3,by omega,fun x=>?_,fun hx=>absurd (hx _ (by rw [ed];exact .head _)) hn2⟩;rw [q5,R5,ed,List.mem_cons];constructor
    ·rintro ((rfl|h)|h)
     ·exact .inr ⟨.inl rfl,ht⟩
     ·exact .inl h
     ·exact .inr ⟨.inr h.1,h.2⟩
    ·rintro (h|⟨h|h,h2⟩)
     ·exact .inl (.inr h)
     ·exact .inl (.inl h)
     ·exact .inr ⟨h,h2⟩
   ·rw [B3 (c:=bif (!((r:Int),b).2) then (decide (M[i].Key.Time≥C.horizon)) else false) (by
     cases b with
     | true=>rfl
     | false=>exact dF fun ht=>hg ⟨rfl,ht⟩)]
    unfold Cp;rw [ckb (by omega)];obtain ⟨C',q1,q2,q3,q4,q5,q6⟩:=ih (i+1) C hc (by omega) hC (by omega);refine ⟨C',q1,q2,q3,by omega,fun x=>?_,fun hx=>q6 fun y hy=>hx y (by rw [ed];exact .tail _ hy)⟩;rw [q5,ed,List.mem_cons];constructor
    ·rintro (h|h)
     ·exact .inl h
     ·exact .inr ⟨.inr h.1,h.2⟩
    ·rintro (h|⟨h|h,h2⟩)
     ·exact .inl h
     ·subst h
      cases b with
      | true=>exact .inl (r2.1 rfl)
      | false=>exact absurd ⟨rfl,h2⟩ hg
     ·exact .inr ⟨h,h2⟩
  ·rw [B3 (dF (by omega)),List.drop_eq_nil_of_le (by omega)];unfold Er;rw [B3 (dF (by omega)),ckb (by omega)];exact ⟨C,rfl,hC,rfl,by omega,fun x=>⟨.inl,fun e=>e.elim id fun e=>by cases e.1⟩,fun _=>rfl⟩
theorem Xx {F:Nat} {s:mosaic_Spec} {p0:mosaic_Node} {Y:Int×mosaic_Node} {M:List mosaic_Message} (hF:1000≤F) (hs:GS F s) (hM:∀m∈M,okM s m) (hl:M.length≤200) (hY:0≤Y.2.count∧Y.2.count≤300) :
  ∀(n i:Nat) (C:mosaic_Node),i≤M.length→M.length-i<n→SN F s C→tot C.kept+(M.length-i)≤256 →
   ∃C',Bl F p0 Y M n C.spec.Grid.X C.spec.Grid.Y C.horizon C.count C.spec.Grid.Size C.spec.Grid.Wide C.spec.Grid.High C.spec.Earth.Lo C.spec.Earth.Hi C.spec.Radars C.spec.Age C.kept C.looks C.radars (i:Int)=some (C'.count-Y.2.count,0,⟨p0.spec,C'.radars,C'.horizon,C'.kept,C'.count,p0.looks⟩)∧SN F s C'∧C'.horizon=C.horizon∧tot C'.kept≤tot C.kept+(M.length-i) ∧
    (∀x,has C' x↔has C x∨(x∈M.drop i∧C.horizon≤x.Key.Time))∧((∀x∈M.drop i,has C x)→C'=C):=by
 intro n
 induction n with
 | zero=>intro i C _ h;omega
 | succ n ih =>
  intro i C hi hn hC hb;have hcc:=hC.ni.count;rw [Bl];unfold Da
  by_cases hc:i<M.length
  ·have hm:=hM _ (List.getElem_mem hc);obtain ⟨r,b,e,r1,r2,r3⟩:=Qi (m:=M[i]) hF hs hC (by omega);rw [Ce (dT (by omega)),Cv i M[i] rfl (List.getElem?_eq_getElem hc)];rw [show (mosaic_Node.mk (mosaic_Spec.mk (api_Grid.mk C.spec.Grid.X C.spec.Grid.Y C.spec.Grid.Size C.spec.Grid.Wide C.spec.Grid.High) (api_Span.mk C.spec.Earth.Lo C.spec.Earth.Hi) C.spec.Radars C.spec.Age) C.radars C.horizon C.kept C.count C.looks)=C from rfl];rw [e,sbd];have ed:=List.drop_eq_getElem_cons hc
   by_cases hg:b=false∧C.horizon≤M[i].Key.Time
   ·obtain ⟨hb0,ht⟩:=hg;have hn2:¬has C M[i]:=fun x=>by have:=r2.2 x;rw [hb0] at this;cases this
    have hS:=r3 hb0 hm;have hcn:(Qj C M[i] r).count=C.count+1:=rfl;have hSc:=hS.ni.count;rw [Ce (c:=bif (!((r:Int),b).2) then (decide (M[i].Key.Time≥C.horizon)) else false) (by rw [show ((r:Int),b).2=b from rfl,hb0];exact dT ht),We hF hs hC.ni hm (by omega) e r1,sbd];unfold C0;rw [ckb (by omega)];obtain ⟨C',q1,q2,q3,q4,q5,q6⟩:=ih (i+1) (Qj C M[i] r) hc (by omega) hS (by omega);refine ⟨C',q1,q2,q3,by omega,fun x=>?_,fun hx=>absurd (hx _ (by rw [ed];exact .head _)) hn2⟩;rw [q5,R5,ed,List.mem_cons];constructor
    ·rintro ((rfl|h)|h)
     ·exact .inr ⟨.inl rfl,ht⟩
     ·exact .inl h
     ·exact .inr ⟨.inr h.1,h.2⟩
    ·rintro (h|⟨h|h,h2⟩)
     ·exact .inl (.inr h)
     ·exact .inl (.inl h)
     ·exact .inr ⟨h,h2⟩
   ·rw [B3 (c:=bif (!((r:Int),b).2) then (decide (M[i].Key.Time≥C.horizon)) else false) (by
     cases b with
     | true=>rfl
     | false=>exact dF fun ht=>hg ⟨rfl,ht⟩)]
    unfold C0;rw [ckb (by omega)];obtain ⟨C',q1,q2,q3,q4,q5,q6⟩:=ih (i+1) C hc (by omega) hC (by omega);refine ⟨C',q1,q2,q3,by omega,fun x=>?_,fun hx=>q6 fun y hy=>hx y (by rw [ed];exact .tail _ hy)⟩;rw [q5,ed,List.mem_cons];constructor
    ·rintro (h|h)
     ·exact .inl h
     ·exact .inr ⟨.inr h.1,h.2⟩
    ·rintro (h|⟨h|h,h2⟩)
     ·exact .inl h
     ·subst h
      cases b with
      | true=>exact .inl (r2.1 rfl)
      | false=>exact absurd ⟨rfl,h2⟩ hg
     ·exact .inr ⟨h,h2⟩
  ·rw [B3 (dF (by omega)),List.drop_eq_nil_of_le (by omega)];unfold Db;rw [B3 (dF (by omega)),ckb (by omega)];exact ⟨C,rfl,hC,rfl,by omega,fun x=>⟨.inl,fun e=>e.elim id fun e=>by cases e.1⟩,fun _=>rfl⟩
theorem L5 {N:mosaic_Node} {m:mosaic_Message}:m∈Rx N↔has N m:=Zl
theorem Z5 {B:List (mosaic_Key×List (List api_Span))} (hn:(B.map (·.1)).Nodup):((B.map (·.1)).flatMap fun k=>(kl B k).map (mosaic_Message.mk k)).length=tot B:=by
 induction B with
 | nil=>rfl
 | cons p B ih =>
  rw [List.map_cons,List.nodup_cons] at hn;rw [List.map_cons,List.flatMap_cons,List.length_append,List.length_map];have e1:tot (p::B)=p.2.length+tot B:=by simp [tot]
  have e2:kl (p::B) p.1=p.2:=by unfold kl lkM;rw [if_pos rfl];rfl
  have e3:((B.map (·.1)).flatMap fun k=>(kl (p::B) k).map (mosaic_Message.mk k))=(B.map (·.1)).flatMap fun k=>(kl B k).map (mosaic_Message.mk k):=by
   have fm:∀l:List mosaic_Key,(∀x∈l,x∈B.map (·.1))→(l.flatMap fun k=>(kl (p::B) k).map (mosaic_Message.mk k))=l.flatMap fun k=>(kl B k).map (mosaic_Message.mk k):=by
    intro l
    induction l with
    | nil=>intro _;rfl
    | cons x l ih =>
     intro hx;rw [List.flatMap_cons,List.flatMap_cons,ih fun y hy=>hx y (.tail _ hy)];have:kl (p::B) x=kl B x:=by
      unfold kl;show (if x=p.1 then some p.2 else lkM B x).getD []=_;rw [if_neg (fun e:x=p.1=>hn.1 (e▸hx x (.head _)))]
     rw [this]
   exact fm _ fun x hx=>hx
  rw [e1,e2,e3,ih hn.2]
theorem N9 {F:Nat} {s:mosaic_Spec} {N:mosaic_Node} (h:NI F s N):(Rx N).length=tot N.kept:=by
 have:=(List.Perm.flatMap_right (fun k=>(kl N.kept k).map (mosaic_Message.mk k)) (Gz N).2.1).length_eq;exact this.trans (Z5 h.nd)
theorem Qf {F:Nat} {s:mosaic_Spec} {N O:mosaic_Node} (hF:1000≤F) (h:RG F s) (hN:SN F s N) (hO:SN F s O) (ht:tot N.kept+tot O.kept≤200) :
  ∃(c:Int) (N':mosaic_Node),Bu F N O=some (c,0,N')∧SN F s N'∧N'.horizon=(if O.horizon>N.horizon then O.horizon else N.horizon)∧tot N'.kept≤tot N.kept+tot O.kept ∧
   (∀x,has N' x↔(has N x∨has O x)∧N'.horizon≤x.Key.Time)∧((∀x,has O x→has N x∧N'.horizon≤x.Key.Time)→c=0):=by
 have hs:=h.gs;have hl:=h.len;have hmx:=N9 hO.ni;obtain ⟨mx,emx⟩:∃mx,mx=(if O.horizon>N.horizon then O.horizon else N.horizon):=⟨_,rfl⟩;have hfg:=hN.fg mx;have hfc:=hfg.ni.count;have hfl:=Qn mx N.kept;have hfl2:tot (fgN N mx).kept≤tot N.kept:=hfl;obtain ⟨C',q1,q2,q3,q4,q5,q6⟩:=Xw (F:=F) (p0:=N) (Y:=((Ke mx N.kept:Int),fgN N mx)) (M:=Rx O) hF hs (fun m hm=>hO.okm (L5.1 hm)) (by omega) (by show 0≤(fgN N mx).count∧(fgN N mx).count≤300;omega) F 0 (fgN N mx) (Nat.zero_le _) (by omega) hfg (by omega);rw [List.drop_zero] at q5 q6;have e0:Bu F N O=(F3 F N.spec O.spec).bind fun y30=>bif (!y30) then (some (0,11,N)) else ((F4 F N (if O.horizon>N.horizon then O.horizon else N.horizon)).bind fun y45=>(C9 F O).bind fun y352 =>
   Cc F N y45 y352 F y45.2.spec.Grid.X y45.2.spec.Grid.Y y45.2.horizon y45.2.count y45.2.spec.Grid.Size y45.2.spec.Grid.Wide y45.2.spec.Grid.High y45.2.spec.Earth.Lo y45.2.spec.Earth.Hi y45.2.spec.Radars y45.2.spec.Age y45.2.kept y45.2.radars y45.2.looks 0):=rfl
 refine ⟨_,_,by rw [e0,hN.ni.spec,hO.ni.spec,Rk (by omega) (by omega),sbd,B3 (c:=!true) rfl,←emx,U0 hN.ni (by omega),sbd,Rb hF hs hO.ni (by omega),sbd];exact q1,?_,?_,?_,?_,?_⟩
 ·have:=q2;exact ⟨⟨hN.ni.spec,q2.ni.radars,q2.ni.nd,q2.ni.ok,q2.ni.count,hN.ni.looks⟩,q2.so,q2.vs⟩
 ·exact q3.trans emx
 ·show tot C'.kept≤_;omega
 ·intro x;have e1:has (⟨N.spec,C'.radars,C'.horizon,C'.kept,C'.count,N.looks⟩:mosaic_Node) x↔has C' x:=Iff.rfl;have e2:C'.horizon=mx:=q3;rw [e1,q5,Rq,L5,e2];show has N x∧mx≤_∨has O x∧mx≤_↔_;constructor
  ·rintro (h|h)
   ·exact ⟨.inl h.1,h.2⟩
   ·exact ⟨.inr h.1,h.2⟩
  ·rintro ⟨h|h,h2⟩
   ·exact .inl ⟨h,h2⟩
   ·exact .inr ⟨h,h2⟩
 ·intro hx;have e2:C'.horizon=mx:=q3;have:=q6 fun x hm=>Rq.2 (by have:=hx x (L5.1 hm);rw [show (⟨N.spec,C'.radars,C'.horizon,C'.kept,C'.count,N.looks⟩:mosaic_Node).horizon=mx from e2] at this;exact this);rw [this];show (fgN N mx).count-(fgN N mx).count=0;omega
theorem Xy {F:Nat} {s:mosaic_Spec} {N:mosaic_Node} (hF:1000≤F) (h:RG F s) (hN:SN F s N) (ht:tot N.kept≤100) (hh:∀x,has N x→N.horizon≤x.Key.Time) :
  ∃(N':mosaic_Node),Cg F N=some (0,0,N')∧SN F s N'∧N'.horizon=N.horizon∧tot N'.kept≤tot N.kept∧(∀x,has N' x↔has N x):=by
 have hs:=h.gs;have hl:=h.len;have hmx:=N9 hN.ni;have hfg:=hN.fg N.horizon;have hfc:=hfg.ni.count;have hfl:tot (fgN N N.horizon).kept≤tot N.kept:=Qn N.horizon N.kept;obtain ⟨C',q1,q2,q3,q4,q5,q6⟩:=Xx (F:=F) (p0:=N) (Y:=((Ke N.horizon N.kept:Int),fgN N N.horizon)) (M:=Rx N) hF hs (fun m hm=>hN.okm (L5.1 hm)) (by omega) (by show 0≤(fgN N N.horizon).count∧(fgN N N.horizon).count≤300;omega) F 0 (fgN N N.horizon) (Nat.zero_le _) (by omega) hfg (by omega);rw [List.drop_zero] at q6;have e0:Cg F N=(F3 F N.spec N.spec).bind fun y30=>bif (!y30) then (some (0,11,N)) else ((F4 F N (if N.horizon>N.horizon then N.horizon else N.horizon)).bind fun y45=>(C9 F ⟨N.spec,y45.2.radars,N.horizon,N.kept,N.count,N.looks⟩).bind fun y352 =>
   Bl F N y45 y352 F y45.2.spec.Grid.X y45.2.spec.Grid.Y y45.2.horizon y45.2.count y45.2.spec.Grid.Size y45.2.spec.Grid.Wide y45.2.spec.Grid.High y45.2.spec.Earth.Lo y45.2.spec.Earth.Hi y45.2.spec.Radars y45.2.spec.Age y45.2.kept y45.2.looks y45.2.radars 0):=rfl
 have e1:=q6 fun x hm=>Rq.2 ⟨L5.1 hm,hh x (L5.1 hm)⟩;subst e1;have hal:C9 F (⟨N.spec,(fgN N N.horizon).radars,N.horizon,N.kept,N.count,N.looks⟩:mosaic_Node)=some (Rx N):=Rb hF hs hN.ni (by show tot N.kept<900;omega);refine ⟨⟨N.spec,(fgN N N.horizon).radars,(fgN N N.horizon).horizon,(fgN N N.horizon).kept,(fgN N N.horizon).count,N.looks⟩,?_,?_,rfl,hfl,?_⟩
 ·rw [e0,hN.ni.spec,Rk (by omega) (by omega),sbd,B3 (c:=!true) rfl,if_neg (Int.lt_irrefl _),U0 hN.ni (by omega),sbd];rw [←hN.ni.spec];rw [show ((Ke N.horizon N.kept:Int),fgN N N.horizon).2=fgN N N.horizon from rfl,hal,sbd];refine q1.trans ?_;rw [show (fgN N N.horizon).count-((Ke N.horizon N.kept:Int),fgN N N.horizon).2.count=0 from Int.sub_self _]
 ·exact ⟨⟨hN.ni.spec,q2.ni.radars,q2.ni.nd,q2.ni.ok,q2.ni.count,hN.ni.looks⟩,q2.so,q2.vs⟩
 ·intro x;have e1:has (⟨N.spec,(fgN N N.horizon).radars,(fgN N N.horizon).horizon,(fgN N N.horizon).kept,(fgN N N.horizon).count,N.looks⟩:mosaic_Node) x↔has (fgN N N.horizon) x:=Iff.rfl;rw [e1,Rq];exact ⟨fun e=>e.1,fun e=>⟨e,hh x e⟩⟩
end Go.Proofs.YtkbjbnkkfifbmaaGreat
namespace Go.Proofs.YtkbjbnkkfifbmaaGreat
open Go Go.RowKit Go.Eng
set_option maxRecDepth 10000
set_option linter.unusedVariables false
set_option linter.unusedSimpArgs false
theorem A4u:∀(k f:Nat) (n:Int) (l:List Int),0≤n→n<128 ^ (k+1)→n≤4000000000000000000→k<f→l.length+k≤1000000000→∃l',Dt f l n=some l'∧l'.length≤l.length+k+1:=by
 intro k
 induction k with
 | zero =>
  intro f n l h0 h1 _ hf hl;obtain ⟨f,rfl⟩:∃g,f=g+1:=⟨f-1,by omega⟩;rw [Dt];unfold Fv;rw [B3 (dF (by omega))];unfold Fw;rw [Lt (by simp;omega) (by decide)];exact ⟨_,rfl,by simp⟩
 | succ k ih =>
  intro f n l h0 h1 h2 hf hl;obtain ⟨f,rfl⟩:∃g,f=g+1:=⟨f-1,by omega⟩;rw [Dt];unfold Fv
  by_cases hc:n≥128
  ·have hm0:=Int.tmod_nonneg 128 h0;have hm1:=Int.tmod_lt_of_pos n (show (0:Int)<128 by omega);have hd:n/128<128 ^ (k+1):=by
    rw [Int.pow_succ] at h1;exact Int.ediv_lt_of_lt_mul (by omega) h1
   rw [Ce (dT hc),Gt (by omega),ckb (by omega),Lt (by simp;omega) (by decide),Y1 h0 (by omega) (by omega)];obtain ⟨l',e,hl'⟩:=ih f (n/128) (l++[IntKind.u8.wrap (n.tmod 128+128)]) (by omega) hd (by omega) (by omega) (by simp;omega);exact ⟨l',e,by simp at hl';omega⟩
  ·rw [B3 (dF hc)];unfold Fw;rw [Lt (by simp;omega) (by decide)];exact ⟨_,rfl,by simp⟩
theorem Mm {F:Nat} (hF:20≤F) {n:Int} {l:List Int} (h0:0≤n) (h1:n≤1000000000000000000) (hl:l.length≤100000000):∃l',D8 F l n=some l'∧l'.length≤l.length+10:=by
 have h2:n<128 ^ (9+1):=by
  have:(1000000000000000000:Int)<128 ^ 10:=by decide
  show n<128 ^ 10;omega
 obtain ⟨l',e,h⟩:=A4u 9 F n l h0 h2 (by omega) (by omega) (by omega);exact ⟨l',e,by omega⟩
theorem A0j {l:List Int} (hl:l.length≤100000000):∀(n i:Nat) (c:Int),i≤l.length→l.length-i<n→∃k,Ex l n c (i:Int)=some k∧k.length=4:=by
 intro n
 induction n with
 | zero=>intro i c _ h;omega
 | succ n ih =>
  intro i c hi hn;rw [Ex];unfold Hu
  by_cases hc:i<l.length
  ·rw [Ce (dT (by omega)),Cv i l[i] rfl (List.getElem?_eq_getElem hc),ckb (by omega)];exact ih (i+1) _ hc (by omega)
  ·rw [B3 (dF (by omega))];exact ⟨_,rfl,rfl⟩
theorem A3b {F:Nat} {l:List Int} (hl:l.length<F) (h2:l.length≤100000000):∃B,Cu F l=some B:=by
 obtain ⟨k,e,hk⟩:=A0j h2 F 0 1 (Nat.zero_le _) (by omega);unfold Cu Kn;rw [show (0:Int)=((0:Nat):Int) from rfl,e,sbd,Lt (by omega) (by decide)];exact ⟨_,rfl⟩
theorem Y4 {F A:Nat} {x:Int} {k2:Int→List Int→Option (List Int)} {u:mosaic_Message} (hF:20≤F) (hu:u.Vals.length≤1000) (hv:∀v∈u.Vals,0≤v.Lo∧v.Lo≤v.Hi∧v.Hi≤1000000) (hx:0≤x∧x≤1000000) (hA:A≤1000000)
  (hk:∀l:List Int,l.length≤A+20*u.Vals.length→∃B,k2 (x+1) l=some B) :
  ∀(n i:Nat) (l:List Int),i≤u.Vals.length→u.Vals.length-i<n→l.length≤A+20*i→∃B,C8 F x k2 u n l (i:Int)=some B:=by
 intro n
 induction n with
 | zero=>intro i l _ h;omega
 | succ n ih =>
  intro i l hi hn hl;rw [C8];unfold E0
  by_cases hc:i<u.Vals.length
  ·obtain ⟨v1,v2,v3⟩:=hv _ (List.getElem_mem hc);obtain ⟨l1,e1,q1⟩:=Mm (F:=F) hF (n:=u.Vals[i].Lo) (l:=l) v1 (by omega) (by omega);obtain ⟨l2,e2,q2⟩:=Mm (F:=F) hF (n:=u.Vals[i].Hi-u.Vals[i].Lo) (l:=l1) (by omega) (by omega) (by omega);rw [Ce (dT (by omega)),Cv i u.Vals[i] rfl (List.getElem?_eq_getElem hc),ckb (by omega),e1,sbd,e2,sbd,ckb (by omega)];exact ih (i+1) l2 hc (by omega) (by omega)
  ·rw [B3 (dF (by omega))];unfold E2;rw [ckb (by omega)];exact hk l (by omega)
theorem Y5 {F P:Nat} {M:List mosaic_Message} (hF:2000≤F) (hP:P≤500) (hM:∀m∈M,m.Vals.length=P∧(∀v∈m.Vals,0≤v.Lo∧v.Lo≤v.Hi∧v.Hi≤1000000)∧m.Key.Name.size≤30∧(0≤m.Key.Tilt∧m.Key.Tilt≤256)∧(0≤m.Key.Time∧m.Key.Time≤4294967296)) (hl:M.length≤50) (hb:100+M.length*(60+20*P)<F) :
  ∀(n i:Nat) (l:List Int),i≤M.length→M.length-i<n→l.length≤100+i*(60+20*P)→∃B,C7 F M n (i:Int) l=some B:=by
 intro n
 induction n with
 | zero=>intro i l _ h;omega
 | succ n ih =>
  intro i l hi hn hll;rw [C7];unfold Dz;have hbi:i*(60+20*P)≤M.length*(60+20*P):=Nat.mul_le_mul_right _ hi;have hbm:M.length*(60+20*P)≤50*10060:=Nat.mul_le_mul hl (by omega)
  by_cases hc:i<M.length
  ·obtain ⟨m1,m2,m3,m4,m5⟩:=hM _ (List.getElem_mem hc);have hs:(sby M[i].Key.Name).length=M[i].Key.Name.size:=by unfold sby;rw [List.length_map];rfl
   obtain ⟨l1,e1,q1⟩:=Mm (F:=F) (by omega) (n:=((M[i].Key.Name.size:Nat):Int)) (l:=l) (by omega) (by omega) (by omega);obtain ⟨l2,e2,q2⟩:=Mm (F:=F) (by omega) (n:=M[i].Key.Tilt) (l:=l1++sby M[i].Key.Name) m4.1 (by omega) (by simp;omega);obtain ⟨l3,e3,q3⟩:=Mm (F:=F) (by omega) (n:=M[i].Key.Time) (l:=l2) m5.1 (by omega) (by simp at q2;omega);rw [Ce (dT (by omega)),Cv i M[i] rfl (List.getElem?_eq_getElem hc),e1,sbd,Lt (by omega) (by decide),e2,sbd,e3,sbd];have hA:l3.length≤100+i*(60+20*P)+60:=by simp at q2;omega
   refine Y4 (A:=100+i*(60+20*P)+60) (by omega) (by omega) m2 (by omega) (by omega) (fun k hk=>?_) F 0 l3 (Nat.zero_le _) (by omega) (by omega);have:=ih (i+1) k hc (by omega) (by rw [Nat.succ_mul];omega);exact this
  ·rw [B3 (dF (by omega))];exact A3b (by omega) (by omega)
theorem A03 {F:Nat} {s:mosaic_Spec} {N:mosaic_Node} (hF:2000≤F) (hs:GS F s) (h:SN F s N) (hnm:∀m,has N m→m.Key.Name.size≤30) (ht:tot N.kept≤50) (hb:100+tot N.kept*(60+20*pix s)<F) (hh:0≤N.horizon∧N.horizon≤4294967296) :
  ∃B,Bc F N=some B:=by
 have hsm:=hs.small;have hc:=h.ni.count;have hm:=N9 h.ni;obtain ⟨l1,e1,q1⟩:=Mm (F:=F) (by omega) (n:=N.horizon) (l:=[82,68,77,49]) hh.1 (by omega) (by simp);obtain ⟨l2,e2,q2⟩:=Mm (F:=F) (by omega) (n:=N.count) (l:=l1) (by omega) (by omega) (by simp at q1;omega);unfold Bc Ak;rw [sbd,cond_false,e1,sbd,e2,sbd,Rb (by omega) hs h.ni (by omega),sbd];refine Y5 (P:=pix s) hF hsm (fun m hmm=>?_) (by omega) (by rw [hm];omega) F 0 l2 (Nat.zero_le _) (by omega) (by simp at q1;omega);have hhas:=L5.1 hmm;have hok:=h.okm hhas;exact ⟨hok.len,hok.vals,hnm m hhas,hok.key.2.1,hok.key.2.2⟩
end Go.Proofs.YtkbjbnkkfifbmaaGreat
namespace Go.Proofs.YtkbjbnkkfifbmaaGreat
open Go Go.RowKit Go.Eng
set_option maxRecDepth 10000
set_option linter.unusedVariables false
set_option linter.unusedSimpArgs false
def gBd (u:mosaic_used) (p:Nat):api_Span:=(u.bands[p]?).getD default
def gVl (u:mosaic_used) (p:Nat):api_Span:=(u.vals[p]?).getD default
def Ul (p:Nat) (a b:mosaic_used):Bool:=!(sEq a.Key.Name b.Key.Name)&&Ao (gBd b p)&&!(Bg (gBd a p) (gBd b p))&&Bg (gVl a p) (gVl b p)
def Mj (p:Nat) (a:mosaic_used) (l:List mosaic_used):List mosaic_Clash:=(l.filter (Ul p a)).map fun b=>⟨p,a.Key,b.Key⟩
def Rd (p:Nat):List mosaic_used→List mosaic_Clash
 | []=>[]
 | a::l=>(if Ao (gBd a p) then Mj p a l else [])++Rd p l
def Yq (P:Nat) (l:List mosaic_used):List mosaic_Clash:=(List.range P).flatMap fun p=>Rd p l
theorem Re (p:Nat) (a:mosaic_used) (l:List mosaic_used):(Mj p a l).length≤l.length:=by
 unfold Mj;rw [List.length_map];exact List.length_filter_le _ _
theorem Uk (p:Nat) (l:List mosaic_used) (n:Nat) (h:l.length≤n):(Rd p l).length≤l.length*n:=by
 induction l with
 | nil=>simp [Rd]
 | cons a l ih =>
  unfold Rd;rw [List.length_append,List.length_cons,Nat.add_mul];rw [List.length_cons] at h;have h1:=ih (by omega);have h2:=Re p a l;have h3:(if Ao (gBd a p)=true then Mj p a l else []).length≤l.length:=by split<;>simp [h2]
  omega
abbrev YC:=List mosaic_Clash×Int×List (mosaic_where×List api_Span)
theorem Yr {p i:Nat} {k4:Int→List mosaic_Clash→Option YC} {u:mosaic_used} {l:List mosaic_used} {P:Nat} (hu:u.bands.length=P∧u.vals.length=P) (hl:∀x∈l,x.bands.length=P∧x.vals.length=P) (hp:p<P) (hn:l.length≤10000) (hi:i≤100000) :
  ∀(n j:Nat) (acc:List mosaic_Clash),j≤l.length→l.length-j<n→acc.length+(l.length-j)≤1000000000000→Bn (p:Int) (i:Int) k4 u l n (j:Int) acc=k4 ((i:Int)+1) (acc++Mj p u (l.drop j)):=by
 intro n
 induction n with
 | zero=>intro j acc _ h;omega
 | succ n ih =>
  intro j acc hj hn' ha;rw [Bn];unfold E8
  by_cases hc:j<l.length
  ·obtain ⟨b,hb⟩:∃b,b=l[j]:=⟨_,rfl⟩;have hbl:=hl l[j] (List.getElem_mem hc);rw [←hb] at hbl;have hgb:l[j]? = some b:=by rw [hb];exact List.getElem?_eq_getElem hc
   have b1:b.bands[p]? = some (gBd b p):=by unfold gBd;rw [List.getElem?_eq_getElem (by omega)];rfl
   have b2:u.bands[p]? = some (gBd u p):=by unfold gBd;rw [List.getElem?_eq_getElem (by omega)];rfl
   have b3:b.vals[p]? = some (gVl b p):=by unfold gVl;rw [List.getElem?_eq_getElem (by omega)];rfl
   have b4:u.vals[p]? = some (gVl u p):=by unfold gVl;rw [List.getElem?_eq_getElem (by omega)];rfl
   have q1:j+1≤l.length:=hc;have q2:l.length-(j+1)<n:=by omega
   have hd:l.drop j=b::l.drop (j+1):=by rw [List.drop_eq_getElem_cons hc,←hb]
   have no:∀acc',Ul p u b=false→acc'=acc→Bz (j:Int) (Bn (p:Int) (i:Int) k4 u l n) acc'=k4 ((i:Int)+1) (acc++Mj p u (l.drop j)):=by
    rintro acc' h0 rfl;unfold Bz;rw [ckb (by omega),hd];unfold Mj;rw [List.filter_cons_of_neg (by rw [h0];decide)];exact ih (j+1) acc' q1 q2 (by omega)
   rw [Ce (dT (by omega)),Cv j b rfl hgb]
   cases hname:sEq u.Key.Name b.Key.Name with
   | true =>
    rw [gdF (g:=(true==false&&true)) rfl,sbd,gdF (g:=((bif true then true else _)==false&&true)) rfl,sbd,gdF (g:=((bif true then true else _)==false&&true)) rfl,sbd,gdF (g:=((bif (bif true then true else _) then true else _)==false&&true)) rfl,sbd,gdF (g:=((bif (bif true then true else _) then true else _)==false&&true)) rfl,sbd,Ce (c:=bif (bif (bif true then true else _) then true else _) then true else _) rfl];exact no acc (by unfold Ul;rw [hname];rfl) rfl
   | false =>
    rw [gdT (g:=(false==false&&true)) rfl,Cv p _ rfl b1]
    cases hseen:Ao (gBd b p) with
    | false =>
     rw [gdF (g:=((bif false then true else (!false))==false&&true)) rfl,sbd,gdF (g:=((bif false then true else (!false))==false&&true)) rfl,sbd,gdF (g:=((bif (bif false then true else (!false)) then true else _)==false&&true)) rfl,sbd,gdF (g:=((bif (bif false then true else (!false)) then true else _)==false&&true)) rfl,sbd,Ce (c:=bif (bif (bif false then true else (!false)) then true else _) then true else _) rfl];exact no acc (by unfold Ul;rw [hname,hseen];rfl) rfl
    | true =>
     rw [gdT (g:=((bif false then true else (!true))==false&&true)) rfl,Cv p _ rfl b2,gdT (g:=((bif false then true else (!true))==false&&true)) rfl,Cv p _ rfl b1]
     cases hap:Bg (gBd u p) (gBd b p) with
     | true =>
      rw [gdF (g:=((bif (bif false then true else (!true)) then true else true)==false&&true)) rfl,sbd,gdF (g:=((bif (bif false then true else (!true)) then true else true)==false&&true)) rfl,sbd,Ce (c:=bif (bif (bif false then true else (!true)) then true else true) then true else _) rfl];exact no acc (by unfold Ul;rw [hname,hseen,hap];rfl) rfl
     | false =>
      rw [gdT (g:=((bif (bif false then true else (!true)) then true else false)==false&&true)) rfl,Cv p _ rfl b4,gdT (g:=((bif (bif false then true else (!true)) then true else false)==false&&true)) rfl,Cv p _ rfl b3]
      cases hv:Bg (gVl u p) (gVl b p) with
      | false =>
       rw [Ce (c:=bif (bif (bif false then true else (!true)) then true else false) then true else (!false)) rfl];exact no acc (by unfold Ul;rw [hname,hseen,hap,hv];rfl) rfl
      | true =>
       rw [B3 (c:=bif (bif (bif false then true else (!true)) then true else false) then true else (!true)) rfl,Lt (by simp;omega) (by decide)];unfold Bz;rw [ckb (by omega),hd];have h0:Ul p u b=true:=by unfold Ul;rw [hname,hseen,hap,hv];rfl
       unfold Mj;rw [List.filter_cons_of_pos h0,List.map_cons];have:=ih (j+1) (acc++[⟨p,u.Key,b.Key⟩]) q1 q2 (by simp;omega);rw [List.append_assoc,List.singleton_append] at this;exact this
  ·rw [B3 (dF (by omega)),List.drop_eq_nil_of_le (by omega)];unfold Cf;rw [ckb (by omega)];show _=k4 ((i:Int)+1) (acc++[]);rw [List.append_nil]
theorem A2f {F P:Nat} {Y:YU} {p:Nat} {k2:Int→List mosaic_Clash→Option YC} (hY:∀u∈Y.1,u.bands.length=P∧u.vals.length=P) (hp:p<P) (hP:P≤10000) (hl:Y.1.length<F) (hl2:Y.1.length≤1000) :
  ∀(n i:Nat) (acc:List mosaic_Clash),i≤Y.1.length→Y.1.length-i<n→acc.length+1000*(Y.1.length-i)≤100000000000→Ba F Y (p:Int) k2 n (i:Int) acc=k2 ((p:Int)+1) (acc++Rd p (Y.1.drop i)):=by
 intro n
 induction n with
 | zero=>intro i acc _ h;omega
 | succ n ih =>
  intro i acc hi hn ha;rw [Ba];unfold E7
  by_cases hc:i<Y.1.length
  ·obtain ⟨u,hu⟩:∃u,u=Y.1[i]:=⟨_,rfl⟩;have hul:=hY Y.1[i] (List.getElem_mem hc);rw [←hu] at hul;have hgu:Y.1[i]? = some u:=by rw [hu];exact List.getElem?_eq_getElem hc
   have b2:u.bands[p]? = some (gBd u p):=by unfold gBd;rw [List.getElem?_eq_getElem (by omega)];rfl
   have hd:Y.1.drop i=u::Y.1.drop (i+1):=by rw [List.drop_eq_getElem_cons hc,←hu]
   have q1:i+1≤Y.1.length:=hc;have q2:Y.1.length-(i+1)<n:=by omega
   rw [Ce (dT (by omega)),Cv i u rfl hgu,Cv p _ rfl b2,hd];unfold Rd
   cases hseen:Ao (gBd u p) with
   | false =>
    rw [Ce (c:=!false) rfl,if_neg (by decide),List.nil_append];unfold Cf;rw [ckb (by omega)];exact ih (i+1) acc q1 q2 (by omega)
   | true =>
    have hcut:S9 Y.1 ((i:Int)+1) ((Y.1.length:Nat):Int)=some (Y.1.drop (i+1)):=by
     unfold S9;rw [if_pos (by omega),show ((i:Int)+1).toNat=i+1 by omega,List.take_of_length_le (by simp)]
    rw [B3 (c:=!true) rfl,if_pos rfl,ckb (by omega),hcut,sbd];have hr:=Re p u (Y.1.drop (i+1));rw [List.length_drop] at hr;have e:Bn (p:Int) (i:Int) (Ba F Y (p:Int) k2 n) u (Y.1.drop (i+1)) F 0 acc=_ :=
     Yr (k4:=Ba F Y (p:Int) k2 n) (i:=i) hul (fun x hx=>hY x (List.mem_of_mem_drop hx)) hp (by rw [List.length_drop];omega) (by omega) F 0 acc (Nat.zero_le _) (by rw [List.length_drop];omega) (by rw [List.length_drop];omega)
    rw [e,List.drop_zero];have:=ih (i+1) (acc++Mj p u (Y.1.drop (i+1))) q1 q2 (by rw [List.length_append];omega);rw [List.append_assoc] at this;exact this
  ·rw [B3 (dF (by omega)),List.drop_eq_nil_of_le (by omega)];unfold Ea;rw [ckb (by omega)];show _=k2 ((p:Int)+1) (acc++[]);rw [List.append_nil]
theorem Ys {F P:Nat} {Y:YU} (hY:∀u∈Y.1,u.bands.length=P∧u.vals.length=P) (hP:P≤10000) (hl:Y.1.length<F) (hl2:Y.1.length≤1000) :
  ∀(n p:Nat) (acc:List mosaic_Clash),p≤P→P-p<n→acc.length+1000000*(P-p)≤50000000000→Bm F Y (P:Int) n (p:Int) acc=some (acc++((List.range P).drop p).flatMap (fun p=>Rd p Y.1),0,Y.2):=by
 intro n
 induction n with
 | zero=>intro i acc _ h;omega
 | succ n ih =>
  intro p acc hp hn ha;rw [Bm];unfold E6
  by_cases hc:p<P
  ·have q1:p+1≤P:=hc;have q2:P-(p+1)<n:=by omega
   have hlen:=Uk p Y.1 1000 hl2;have hlen2:(Rd p Y.1).length≤1000000:=Nat.le_trans hlen (by omega);rw [Ce (dT (by omega))];have e:Ba F Y (p:Int) (Bm F Y (P:Int) n) F 0 acc=_:=A2f (k2:=Bm F Y (P:Int) n) hY hc hP hl hl2 F 0 acc (Nat.zero_le _) (by omega) (by omega);rw [e,List.drop_zero];have:=ih (p+1) (acc++Rd p Y.1) q1 q2 (by rw [List.length_append];omega);rw [List.append_assoc] at this;rw [List.drop_eq_getElem_cons (show p<(List.range P).length by simpa using hc),List.flatMap_cons,List.getElem_range];exact this
  ·rw [B3 (dF (by omega)),List.drop_eq_nil_of_le (by simp;omega)];unfold E9;rw [List.flatMap_nil,List.append_nil]
theorem R8 {F:Nat} {s:mosaic_Spec} {N:mosaic_Node} {t:Int} (hF:1000≤F) (hs:GS F s) (h:NI F s N) (hn:tot N.kept<900) (ht:0≤t∧t≤4294967296) (hh:N.horizon≤t) :
  ∃L,B1 F N t=some (Yq (pix s) ((Jm s N t).map (D6 F s N)),0,L)∧LV F s L:=by
 obtain ⟨L,e,hL⟩:=A1u (t:=t) hF hs h hn (by omega);have hp:=Zv hs;have hsm:=hs.small;have hul:((Jm s N t).map (D6 F s N)).length≤tot N.kept:=by
  rw [List.length_map];exact Nat.le_trans (List.length_filter_le _ _) h.small
 refine ⟨L,?_,hL⟩;unfold B1;rw [Ug ht hh,sbd,B3 (c:=(0:Int) != 0) rfl,e,sbd,h.spec,hp.1,ckb (by omega)];have:=Ys (F:=F) (P:=pix s) (Y:=((Jm s N t).map (D6 F s N),L)) (Vk hF hs h) (by omega) (by show ((Jm s N t).map (D6 F s N)).length<F;omega) (by show ((Jm s N t).map (D6 F s N)).length≤1000;omega) F 0 [] (by omega) (by omega) (by simp;omega);rw [List.drop_zero,List.nil_append] at this;exact this
end Go.Proofs.YtkbjbnkkfifbmaaGreat
namespace Go.Proofs.YtkbjbnkkfifbmaaGreat
open Go Go.RowKit Go.Eng
set_option maxRecDepth 10000
set_option linter.unusedVariables false
set_option linter.unusedSimpArgs false
structure Same (F:Nat) (s:mosaic_Spec) (N N':mosaic_Node):Prop where
 a:SN F s N
 b:SN F s N'
 hz:N.horizon=N'.horizon
 hs:∀x,has N x↔has N' x
section
variable {F:Nat} {s:mosaic_Spec} {N N':mosaic_Node}
theorem Same.kl (h:Same F s N N') (k:mosaic_Key):kl N.kept k=Go.Proofs.YtkbjbnkkfifbmaaGreat.kl N'.kept k:=h.a.kl_eq h.b h.hs k
theorem A20 (h:NI F s N) {k:mosaic_Key}:k∈ksN N↔kl N.kept k≠[]:=by
 constructor
 ·exact fun hk=>(h.key hk).2
 ·intro hk;rw [Tz];unfold kl at hk
  cases e:lkM N.kept k with
  | none=>rw [e] at hk;exact absurd rfl hk
  | some l=>exact ⟨l,rfl⟩
theorem Same.ks (h:Same F s N N'):ksN N=ksN N':=by
 refine S4 ((List.perm_ext_iff_of_nodup h.a.ni.nd h.b.ni.nd).2 fun k=>?_);rw [←(Gz N).2.1.mem_iff,←(Gz N').2.1.mem_iff,A20 h.a.ni,A20 h.b.ni,h.kl]
theorem Same.ms (h:Same F s N N'):Rx N=Rx N':=by
 unfold Rx;rw [h.ks]
 congr 1
 funext k
 rw [h.kl]
theorem Same.tot (h:Same F s N N'):tot N.kept=Go.Proofs.YtkbjbnkkfifbmaaGreat.tot N'.kept:=by
 rw [←N9 h.a.ni,←N9 h.b.ni,h.ms]
theorem Same.cnt (h:Same F s N N'):N.count=N'.count:=by rw [h.a.ni.count,h.b.ni.count,h.tot]
theorem Same.fit (h:Same F s N N') (t:Int):Kx s N t=Kx s N' t:=by
 funext k
 unfold Kx;rw [h.kl]
theorem Same.use (h:Same F s N N') (t:Int):Jm s N t=Jm s N' t:=by
 unfold Jm Qz;rw [h.ks,h.fit]
theorem Same.usd (h:Same F s N N') (t:Int):(Jm s N t).map (D6 F s N)=(Jm s N' t).map (D6 F s N'):=by
 rw [h.use]
 congr 1
 funext k
 unfold D6;rw [h.kl]
theorem Same.lk (h:Same F s N N') {L L':List (mosaic_where×List api_Span)} (hL:LV F s L) (hL':LV F s L'):Same F s ⟨N.spec,N.radars,N.horizon,N.kept,N.count,L⟩ ⟨N'.spec,N'.radars,N'.horizon,N'.kept,N'.count,L'⟩ :=
 ⟨h.a.lk hL,h.b.lk hL',h.hz,h.hs⟩
theorem Same.snap (h:Same F s N N') (hF:1000≤F) (hg:GS F s) (ht:Go.Proofs.YtkbjbnkkfifbmaaGreat.tot N.kept<900):Bc F N=Bc F N':=by
 unfold Bc Ak;rw [Rb hF hg h.a.ni ht,Rb hF hg h.b.ni (by rw [←h.tot];exact ht),h.hz,h.cnt,h.ms]
end
theorem R7 {F:Nat} {N:mosaic_Node} {t:Int} (h0:0≤t∧t≤4294967296) (hh:¬N.horizon≤t):Ci F N t=some 17:=by
 unfold Ci Ak;rw [sbd,cond_false,Kq h0,B3 (c:=!true) rfl,Ce (dT (by omega))]
theorem Zi {F:Nat} {s:mosaic_Spec} {N N':mosaic_Node} {t:Int} (hF:1000≤F) (hs:GS F s) (h:Same F s N N') (hn:tot N.kept<900) (ht:0≤t∧t≤4294967296) :
  ∃(o o':List mosaic_Pixel) (e:Int) (L L':List (mosaic_where×List api_Span)),Bh F N t=some (o,e,L)∧Bh F N' t=some (o',e,L')∧LV F s L∧LV F s L'∧o.length=o'.length∧o.length≤500∧∀(p:Nat) (x x':mosaic_Pixel),o[p]? = some x→o'[p]? = some x'→x=x':=by
 by_cases hh:N.horizon≤t
 ·obtain ⟨o,L,a1,a2,a3,a4⟩:=Yd hF hs h.a.ni hn ht hh;obtain ⟨o',L',b1,b2,b3,b4⟩:=Yd hF hs h.b.ni (by rw [←h.tot];exact hn) ht (by rw [←h.hz];exact hh);refine ⟨o,o',0,L,L',a1,b1,a2,b2,a3.trans b3.symm,by have:=hs.small;omega,fun p x x' hx hx'=>?_⟩;exact Zw (fun _=>False) (fun k _=>by rw [h.use]) (fun k _ _=>h.kl k) (a4 p x hx) (b4 p x' hx') id id
 ·have e1:Bh F N t=some ([],17,N.looks):=by
   unfold Bh;rw [R7 ht hh,sbd,Ce (c:=(17:Int) != 0) rfl]
  have e2:Bh F N' t=some ([],17,N'.looks):=by
   unfold Bh;rw [R7 ht (by rw [←h.hz];exact hh),sbd,Ce (c:=(17:Int) != 0) rfl]
  exact ⟨[],[],17,_,_,e1,e2,h.a.ni.looks,h.b.ni.looks,rfl,by simp,fun p x x' hx=>by simp at hx⟩
theorem Yt {F:Nat} {s:mosaic_Spec} {N N':mosaic_Node} {t:Int} (hF:1000≤F) (hs:GS F s) (h:Same F s N N') (hn:tot N.kept<30) (ht:0≤t∧t≤4294967296) :
  ∃(o:List mosaic_Clash) (e:Int) (L L':List (mosaic_where×List api_Span)),B1 F N t=some (o,e,L)∧B1 F N' t=some (o,e,L')∧LV F s L∧LV F s L'∧o.length≤pix s*900:=by
 by_cases hh:N.horizon≤t
 ·obtain ⟨L,a1,a2⟩:=R8 hF hs h.a.ni (by omega) ht hh;obtain ⟨L',b1,b2⟩:=R8 hF hs h.b.ni (by have:=h.tot;omega) ht (by rw [←h.hz];exact hh);rw [←h.usd] at b1;refine ⟨_,0,L,L',a1,b1,a2,b2,?_⟩;have hul:((Jm s N t).map (D6 F s N)).length≤30:=by
   rw [List.length_map];have h1:(Jm s N t).length≤(ksN N).length:=List.length_filter_le _ _;have h2:=h.a.ni.small;omega
  have hsm:=hs.small;unfold Yq;have:∀P:Nat,((List.range P).flatMap fun p=>Rd p ((Jm s N t).map (D6 F s N))).length≤P*900:=by
   intro P
   induction P with
   | zero=>simp
   | succ P ih =>
    rw [List.range_succ,List.flatMap_append,List.length_append,List.flatMap_singleton];have:=Uk P _ 30 hul;have h3:((Jm s N t).map (D6 F s N)).length*30≤30*30:=Nat.mul_le_mul_right _ hul;omega
  exact this (pix s)
 ·have e1:B1 F N t=some ([],17,N.looks):=by
   unfold B1;rw [R7 ht hh,sbd,Ce (c:=(17:Int) != 0) rfl]
  have e2:B1 F N' t=some ([],17,N'.looks):=by
   unfold B1;rw [R7 ht (by rw [←h.hz];exact hh),sbd,Ce (c:=(17:Int) != 0) rfl]
  exact ⟨[],17,_,_,e1,e2,h.a.ni.looks,h.b.ni.looks,by simp⟩
abbrev EQ:=List (mosaic_where×List api_Span)→List (mosaic_where×List api_Span)→Int→Option (Bool×List (mosaic_where×List api_Span)×List (mosaic_where×List api_Span))
theorem A4r {x:Int} {k2:EQ} {o:List mosaic_Clash} {e:Int} {L L':List (mosaic_where×List api_Span)} (hl:o.length≤1000000):∀(n i:Nat),i≤o.length→o.length-i<n→Fq x k2 (o,e,L) (o,e,L') n (i:Int)=H0 x k2 L' L:=by
 intro n
 induction n with
 | zero=>intro i _ h;omega
 | succ n ih =>
  intro i hi hn;rw [Fq];unfold Je;rw [show (o,e,L).1=o from rfl]
  by_cases hc:i<o.length
  ·rw [Ce (dT (by omega)),Cv i o[i] rfl (List.getElem?_eq_getElem hc),Cv i o[i] rfl (List.getElem?_eq_getElem hc),B3 (by simp),ckb (by omega)];exact ih (i+1) hc (by omega)
  ·rw [B3 (dF (by omega))]
theorem A15 (x:mosaic_Pixel):((((x.Value_.Lo:Int)==x.Value_.Lo)&&(((x.Value_.Hi:Int)==x.Value_.Hi)&&true))&&(((x.Key.Name==x.Key.Name)&&(((x.Key.Tilt:Int)==x.Key.Tilt)&&(((x.Key.Time:Int)==x.Key.Time)&&true)))&&true))=true:=by
 rw [A3q,dT rfl];simp
theorem A4s {F:Nat} {p0 p1:mosaic_Node} {p2:List Int} {x:Int} {k2:EQ} {o o':List mosaic_Pixel} {e:Int} {L L':List (mosaic_where×List api_Span)} (hl:o.length=o'.length) (hl2:o.length≤500) (he:∀(p:Nat) (x x':mosaic_Pixel),o[p]? = some x→o'[p]? = some x'→x=x') :
  ∀(n i:Nat),i≤o.length→o.length-i<n→Fs F p0 p1 p2 x k2 (o,e,L) (o',e,L') n (i:Int)=H3 F p0 p1 p2 x k2 (o,e,L) (o',e,L'):=by
 intro n
 induction n with
 | zero=>intro i _ h;omega
 | succ n ih =>
  intro i hi hn;rw [Fs];unfold Jf;rw [show (o,e,L).1=o from rfl,show (o',e,L').1=o' from rfl]
  by_cases hc:i<o.length
  ·obtain ⟨y,hy⟩:∃y,o[i]? = some y:=⟨_,List.getElem?_eq_getElem hc⟩;obtain ⟨y',hy'⟩:∃y,o'[i]? = some y:=⟨_,List.getElem?_eq_getElem (by omega)⟩;have:=he i y y' hy hy';subst this;rw [Ce (dT (by omega)),Cv i y rfl hy,Cv i y rfl hy',A15,B3 (c:=!true) rfl,ckb (by omega)];exact ih (i+1) hc (by omega)
  ·rw [B3 (dF (by omega))]
theorem A2j {F:Nat} {s:mosaic_Spec} {N N':mosaic_Node} {ts:List Int} (hF:1000≤F) (hF2:20000≤F) (hpx:pix s≤16) (hs:GS F s) (h:Same F s N N') (hn:tot N.kept<30) (hts:∀t∈ts,0≤t∧t≤65535) (hl:ts.length≤100) :
  ∀(n i:Nat) (L' L:List (mosaic_where×List api_Span)),i≤ts.length→ts.length-i<n→LV F s L→LV F s L'→∃A B,Fp F N N' ts n L' L (i:Int)=some (true,A,B)∧LV F s A∧LV F s B:=by
 intro n
 induction n with
 | zero=>intro i L' L _ h;omega
 | succ n ih =>
  intro i L' L hi hnn hL hL';rw [Fp];unfold Jd
  by_cases hc:i<ts.length
  ·have ht:=hts _ (List.getElem_mem hc);obtain ⟨o,o',e,L1,L1',a1,a2,a3,a4,a5,a6,a7⟩:=Zi hF hs (h.lk hL hL') (show tot N.kept<900 by omega) (t:=ts[i]) (by omega);obtain ⟨c,f,L2,L2',b1,b2,b3,b4,b5⟩:=Yt hF hs (h.lk a3 a4) (show tot N.kept<30 by omega) (t:=ts[i]) (by omega);rw [Ce (dT (by omega)),Cv i ts[i] rfl (List.getElem?_eq_getElem hc),ckb (by omega),a1,sbd,Cv i ts[i] rfl (List.getElem?_eq_getElem hc),ckb (by omega),a2,sbd];rw [B3 (c:=bif ((o,e,L1).2.1 != (o',e,L1').2.1) then true else ((((o,e,L1).1.length:Nat):Int) != (((o',e,L1').1.length:Nat):Int))) (by
    show (bif (e != e) then true else ((o.length:Int) != (o'.length:Int)))=false;rw [a5];simp)]
   obtain ⟨A,B,q1,q2,q3⟩:=ih (i+1) L2' L2 hc (by omega) b3 b4;refine ⟨A,B,?_,q2,q3⟩;refine (A4s (L:=L1) (L':=L1') a5 a6 a7 F 0 (Nat.zero_le _) (by omega)).trans ?_;unfold H3;rw [Cv i ts[i] rfl (List.getElem?_eq_getElem hc),ckb (by omega)];rw [show (o,e,L1).2.2=L1 from rfl,b1,sbd,Cv i ts[i] rfl (List.getElem?_eq_getElem hc),ckb (by omega),show (o',e,L1').2.2=L1' from rfl,b2,sbd];rw [B3 (c:=bif ((c,f,L2).2.1 != (c,f,L2').2.1) then true else ((((c,f,L2).1.length:Nat):Int) != (((c,f,L2').1.length:Nat):Int))) (by
    show (bif (f != f) then true else ((c.length:Int) != (c.length:Int)))=false;simp)]
   have hcl:c.length≤14400:=Nat.le_trans b5 (Nat.mul_le_mul_right 900 hpx);refine (A4r (by omega) F 0 (Nat.zero_le _) (by omega)).trans ?_;unfold H0;rw [ckb (by omega)];exact q1
  ·rw [B3 (dF (by omega))];exact ⟨L,L',rfl,hL,hL'⟩
theorem Pl {F:Nat} {s:mosaic_Spec} {N N':mosaic_Node} {ts:List Int} (hF:20000≤F) (hs:GS F s) (h:Same F s N N') (hn:tot N.kept<30) (hb:pix s≤16) (hnm:∀m,has N m→m.Key.Name.size≤30) (hh:0≤N.horizon∧N.horizon≤4294967296) (hts:∀t∈ts,0≤t∧t≤65535) (hl:ts.length≤100) :
  ∃A B,Dg F N N' ts=some (true,A,B)∧LV F s A∧LV F s B:=by
 have hbb:tot N.kept*(60+20*pix s)≤30*380:=Nat.mul_le_mul (by omega) (by omega);obtain ⟨S,e1⟩:=A03 (F:=F) (by omega) hs h.a hnm (by omega) (by omega) hh;have e2:Bc F N'=some S:=by rw [←h.snap (by omega) hs (by omega)];exact e1
 have k1:=(Gz N).1;have k2:=(Gz N').1;have k3:=h.a.ni.small;have k4:=h.b.ni.small;have k5:=h.tot;have c1:=Pc h.a.ni (show tot N.kept<900 by omega);have c2:=Pc h.b.ni (show tot N'.kept<900 by omega);have hzn:∀M:mosaic_Node,D3 F M=some M.horizon:=fun M=>by unfold D3 Ak;rw [sbd,cond_false]
 have ec:((ksN N).filter fun k=>decide (2≤(kl N.kept k).length))=((ksN N').filter fun k=>decide (2≤(kl N'.kept k).length)):=by
  rw [h.ks]
  congr 1
  funext k
  rw [h.kl]
 rw [←ec] at c2;unfold Dg;rw [e1,sbd,e2,sbd,U9.2 rfl,B3 (c:=!true) rfl,hzn,sbd,hzn,sbd,h.hz,B3 (c:=(N'.horizon != N'.horizon)) (by simp),Pd (by omega),sbd,Pd (by omega),sbd,h.ks,B3 (by simp),c1,sbd,c2,sbd,B3 (by simp)];exact A2j (by omega) hF hb hs h hn hts hl F 0 N'.looks N.looks (Nat.zero_le _) (by omega) h.a.ni.looks h.b.ni.looks
end Go.Proofs.YtkbjbnkkfifbmaaGreat
namespace Go.Proofs.YtkbjbnkkfifbmaaGreat
open Go Go.RowKit Go.Eng
set_option maxRecDepth 10000
set_option linter.unusedVariables false
set_option linter.unusedSimpArgs false
theorem A25 {F:Nat} {s:mosaic_Spec} {A B C D:mosaic_Node} {T g:Int} {ts:List Int} {P:mosaic_Message→Prop} (hF:20000≤F) (h:RG F s) (hpx:pix s≤16) (hnm:∀m,okM s m→m.Key.Name.size≤30) (hT:0≤T∧T≤2500) (hts:∀t∈ts,0≤t∧t≤65535) (hl:ts.length≤100) (hw:law11_works F=some true)
  (hA:SN F s A) (hA1:A.horizon=T) (hA2:tot A.kept≤20) (hA3:∀x,has A x↔P x∧T≤x.Key.Time)
  (hB:SN F s B) (hB1:B.horizon=T) (hB3:∀x,has B x↔P x∧T≤x.Key.Time)
  (hC:SN F s C) (hC1:C.horizon=0) (hC2:tot C.kept≤25) (hD:SN F s D) (hD1:D.horizon=0) (hD2:tot D.kept≤25) (hCD:∀x,has C x∨has D x↔P x) :
  Dm F ts T (g,0,A) D.spec.Grid.X D.spec.Grid.Y D.horizon D.count D.spec.Grid.Size D.spec.Grid.Wide D.spec.Grid.High D.spec.Earth.Lo D.spec.Earth.Hi D.spec.Radars D.spec.Age B.spec.Grid.X B.spec.Grid.Y B.horizon B.count B.spec.Grid.Size B.spec.Grid.Wide B.spec.Grid.High B.spec.Earth.Lo B.spec.Earth.Hi B.spec.Radars B.spec.Age D.radars D.kept D.looks B.radars B.kept B.looks C.spec.Grid.X C.spec.Grid.Y C.horizon C.count C.spec.Grid.Size C.spec.Grid.Wide C.spec.Grid.High C.spec.Earth.Lo C.spec.Earth.Hi C.spec.Radars C.spec.Age C.radars C.kept C.looks=some true:=by
 have hs:=h.gs;have e0:Dm F ts T (g,0,A) D.spec.Grid.X D.spec.Grid.Y D.horizon D.count D.spec.Grid.Size D.spec.Grid.Wide D.spec.Grid.High D.spec.Earth.Lo D.spec.Earth.Hi D.spec.Radars D.spec.Age B.spec.Grid.X B.spec.Grid.Y B.horizon B.count B.spec.Grid.Size B.spec.Grid.Wide B.spec.Grid.High B.spec.Earth.Lo B.spec.Earth.Hi B.spec.Radars B.spec.Age D.radars D.kept D.looks B.radars B.kept B.looks C.spec.Grid.X C.spec.Grid.Y C.horizon C.count C.spec.Grid.Size C.spec.Grid.Wide C.spec.Grid.High C.spec.Earth.Lo C.spec.Earth.Hi C.spec.Radars C.spec.Age C.radars C.kept C.looks =
   (Bf F D T).bind fun y1895 =>
   (Bu F C y1895.2.2).bind fun y1934 =>
   (Bu F y1895.2.2 ⟨C.spec,y1934.2.2.radars,C.horizon,C.kept,C.count,C.looks⟩).bind fun y1946 =>
   bif (bif (y1934.2.1 != 0) then true else (y1946.2.1 != 0)) then (some false) else ((Dg F A B ts).bind fun y1959 =>
   bif (!y1959.1) then (some false) else ((Dg F (mosaic_Node.mk A.spec A.radars A.horizon A.kept A.count y1959.2.1) y1934.2.2 ts).bind fun y1968 =>
   bif (!y1968.1) then (some false) else ((Dg F (mosaic_Node.mk A.spec A.radars A.horizon A.kept A.count y1968.2.1) y1946.2.2 ts).bind fun y1977 =>
   bif (!y1977.1) then (some false) else ((Bu F (mosaic_Node.mk y1934.2.2.spec y1934.2.2.radars y1934.2.2.horizon y1934.2.2.kept y1934.2.2.count y1968.2.2) (mosaic_Node.mk A.spec A.radars A.horizon A.kept A.count y1977.2.1)).bind fun y1985 =>
   (Cg F y1985.2.2).bind fun y1997 =>
   bif (bif (bif (bif (y1985.1==0) then (y1985.2.1==0) else false) then (y1997.1==0) else false) then (y1997.2.1==0) else false) then ((Dg F (mosaic_Node.mk A.spec A.radars A.horizon A.kept A.count y1977.2.1) y1997.2.2 ts).bind fun y2010 =>
   (gd ((y2010.1==true&&true)) (law11_works F) default).bind fun y2018 =>
   some (bif y2010.1 then y2018 else false)) else (some false))))):=rfl
 have hAn:∀m,has A m→m.Key.Name.size≤30:=fun m hm=>hnm m (hA.okm hm);obtain ⟨g2,D',d1,d2,d3,d4,d5⟩:=P0 hD hD1 (by omega) (h:=T) (by omega);obtain ⟨c1,X,x1,x2,x3,x4,x5,x6⟩:=Qf (by omega) h hC d2 (by omega);have hXh:X.horizon=T:=by
  rw [x3,d3,hC1]
  split<;>omega
 have hX:∀x,has X x↔P x∧T≤x.Key.Time:=by
  intro x;rw [x5,hXh,d5,←hCD];constructor
  ·rintro ⟨h1|h1,h2⟩
   ·exact ⟨.inl h1,h2⟩
   ·exact ⟨.inr h1.1,h2⟩
  ·rintro ⟨h1|h1,h2⟩
   ·exact ⟨.inl h1,h2⟩
   ·exact ⟨.inr ⟨h1,h2⟩,h2⟩
 have hC':SN F s ⟨C.spec,X.radars,C.horizon,C.kept,C.count,C.looks⟩:=⟨⟨hC.ni.spec,x2.ni.radars,hC.ni.nd,hC.ni.ok,hC.ni.count,hC.ni.looks⟩,hC.so,hC.vs⟩;obtain ⟨c2,Y,y1,y2,y3,y4,y5,y6⟩:=Qf (by omega) h d2 hC' (by show tot D'.kept+tot C.kept≤200;omega);have hYh:Y.horizon=T:=by
  rw [y3,d3];show (if C.horizon>T then C.horizon else T)=T;rw [hC1]
  split<;>omega
 have hY:∀x,has Y x↔P x∧T≤x.Key.Time:=by
  intro x;rw [y5,hYh,d5,←hCD];have e:has (⟨C.spec,X.radars,C.horizon,C.kept,C.count,C.looks⟩:mosaic_Node) x↔has C x:=Iff.rfl;rw [e];constructor
  ·rintro ⟨h1|h1,h2⟩
   ·exact ⟨.inr h1.1,h2⟩
   ·exact ⟨.inl h1,h2⟩
  ·rintro ⟨h1|h1,h2⟩
   ·exact ⟨.inr h1,h2⟩
   ·exact ⟨.inl ⟨h1,h2⟩,h2⟩
 have sAB:Same F s A B:=⟨hA,hB,by rw [hA1,hB1],fun x=>by rw [hA3,hB3]⟩;obtain ⟨L1,M1,q1,q2,q3⟩:=Pl (ts:=ts) hF hs sAB (by omega) hpx hAn (by omega) hts hl;have sAX:Same F s (mosaic_Node.mk A.spec A.radars A.horizon A.kept A.count L1) X:=⟨hA.lk q2,x2,by show A.horizon=_;rw [hA1,hXh],fun x=>by rw [hX];exact hA3 x⟩;obtain ⟨L2,M2,r1,r2,r3⟩:=Pl (ts:=ts) hF hs sAX (show tot A.kept<30 by omega) hpx hAn (by show 0≤A.horizon∧A.horizon≤_;omega) hts hl;have sAY:Same F s (mosaic_Node.mk A.spec A.radars A.horizon A.kept A.count L2) Y:=⟨hA.lk r2,y2,by show A.horizon=_;rw [hA1,hYh],fun x=>by rw [hY];exact hA3 x⟩;obtain ⟨L3,M3,u1,u2,u3⟩:=Pl (ts:=ts) hF hs sAY (show tot A.kept<30 by omega) hpx hAn (by show 0≤A.horizon∧A.horizon≤_;omega) hts hl;obtain ⟨c3,X2,v1,v2,v3,v4,v5,v6⟩:=Qf (by omega) h (x2.lk r3) (hA.lk u2) (by show tot X.kept+tot A.kept≤200;omega);have hX2h:X2.horizon=T:=by
  rw [v3];show (if A.horizon>X.horizon then A.horizon else X.horizon)=T;rw [hA1,hXh]
  split<;>rfl
 have hXe:∀x,has (mosaic_Node.mk X.spec X.radars X.horizon X.kept X.count M2) x↔has X x:=fun x=>Iff.rfl;have hAe:∀x,has (mosaic_Node.mk A.spec A.radars A.horizon A.kept A.count L3) x↔has A x:=fun x=>Iff.rfl;have hc3:c3=0:=v6 fun x hx=>by
  rw [hAe,hA3] at hx;rw [hXe,hX,hX2h];exact ⟨hx,hx.2⟩
 have hX2:∀x,has X2 x↔P x∧T≤x.Key.Time:=by
  intro x;rw [v5,hXe,hAe,hX,hA3,hX2h];exact ⟨fun h=>h.1.elim id id,fun h=>⟨.inl h,h.2⟩⟩
 have v4':tot X2.kept≤tot X.kept+tot A.kept:=v4;obtain ⟨X3,w1,w2,w3,w4,w5⟩:=Xy (by omega) h v2 (by omega) (fun x hx=>by rw [hX2h];exact ((hX2 x).1 hx).2);have sA3:Same F s (mosaic_Node.mk A.spec A.radars A.horizon A.kept A.count L3) X3:=⟨hA.lk u2,w2,by show A.horizon=_;rw [hA1,w3,hX2h],fun x=>by rw [w5,hX2];exact hA3 x⟩;obtain ⟨L4,M4,z1,z2,z3⟩:=Pl (ts:=ts) hF hs sA3 (show tot A.kept<30 by omega) hpx hAn (by show 0≤A.horizon∧A.horizon≤_;omega) hts hl;subst hc3;rw [e0,d1,sbd,x1,sbd,y1,sbd];rw [B3 (c:=bif ((c1,(0:Int),X).2.1 != 0) then true else ((c2,(0:Int),Y).2.1 != 0)) rfl,q1,sbd,B3 (c:=!(true,L1,M1).1) rfl];rw [show (true,L1,M1).2.1=L1 from rfl,show (c1,(0:Int),X).2.2=X from rfl,r1,sbd,B3 (c:=!(true,L2,M2).1) rfl];rw [show (true,L2,M2).2.1=L2 from rfl,show (c2,(0:Int),Y).2.2=Y from rfl,u1,sbd,B3 (c:=!(true,L3,M3).1) rfl];rw [show (true,L2,M2).2.2=M2 from rfl,show (true,L3,M3).2.1=L3 from rfl,v1,sbd,show ((0:Int),(0:Int),X2).2.2=X2 from rfl,w1,sbd];rw [Ce (c:=bif (bif (bif (((0:Int),(0:Int),X2).1==0) then (((0:Int),(0:Int),X2).2.1==0) else false) then (((0:Int),(0:Int),X3).1==0) else false) then (((0:Int),(0:Int),X3).2.1==0) else false) rfl];rw [show ((0:Int),(0:Int),X3).2.2=X3 from rfl,z1,sbd,hw];rfl
def PM (l:List law11_Post) (s:mosaic_Spec) (x:mosaic_Message):Prop:=∃(n:Nat) (p:law11_Post),l[n]? = some p∧x=K8 p s
def PO (l:List law11_Post) (s:mosaic_Spec) (od:List Int) (x:mosaic_Message):Prop:=∃(n:Nat) (p:law11_Post),(n:Int)∈od∧l[n]? = some p∧x=K8 p s
def Ord (od:List Int) (k:Nat):Prop:=od.length=k∧∀j:Int,j∈od↔∃n:Nat,n<k∧j=n
theorem Zy {l:List law11_Post} {s:mosaic_Spec} {od:List Int} (ho:Ord od l.length) (x:mosaic_Message):PO l s od x↔PM l s x:=by
 constructor
 ·rintro ⟨n,p,h1,h2,h3⟩;exact ⟨n,p,h2,h3⟩
 ·rintro ⟨n,p,h2,h3⟩;exact ⟨n,p,(ho.2 n).2 ⟨n,(List.getElem?_eq_some_iff.1 h2).1,rfl⟩,h2,h3⟩
theorem A44 {F:Nat} {s:mosaic_Spec} {A B C D:mosaic_Node} {T g:Int} {ts:List Int} {l:List law11_Post} (hF:20000≤F) (h:RG F s) (hpx:pix s≤16) (hnm:∀m,okM s m→m.Key.Name.size≤30) (hT:0≤T∧T≤2500) (hts:∀t∈ts,0≤t∧t≤65535) (hl:ts.length≤100) (hw:law11_works F=some true) (hp:∀p∈l,okPost p)
  (hA:SN F s A) (hA1:A.horizon=T) (hA2:tot A.kept≤20) (hA3:∀x,has A x↔PM l s x∧T≤x.Key.Time)
  (hB:SN F s B) (hB1:B.horizon=T) (hB3:∀x,has B x↔PM l s x∧T≤x.Key.Time)
  (hC:SN F s C) (hC1:C.horizon=0) (hC2:tot C.kept≤20) (hD:SN F s D) (hD1:D.horizon=0) (hD2:tot D.kept≤20) (hCD:∀x,has C x∨has D x↔PM l s x) :
  Ei F l ts s T (g,0,A) C.spec.Grid.X C.spec.Grid.Y C.horizon C.count C.spec.Grid.Size C.spec.Grid.Wide C.spec.Grid.High C.spec.Earth.Lo C.spec.Earth.Hi C.spec.Radars C.spec.Age D.spec.Grid.X D.spec.Grid.Y D.horizon D.count D.spec.Grid.Size D.spec.Grid.Wide D.spec.Grid.High D.spec.Earth.Lo D.spec.Earth.Hi D.spec.Radars D.spec.Age B.spec.Grid.X B.spec.Grid.Y B.horizon B.count B.spec.Grid.Size B.spec.Grid.Wide B.spec.Grid.High B.spec.Earth.Lo B.spec.Earth.Hi B.spec.Radars B.spec.Age C.radars C.kept C.looks D.radars D.kept D.looks B.radars B.kept B.looks=some true:=by
 unfold Ei
 by_cases hc:0<l.length
 ·have hpo:=hp _ (List.getElem_mem hc);obtain ⟨hm,ht3,htm⟩:=Wb h hpo;obtain ⟨b,e,C',o1,o2,o3,o4,o5,o6,o7,o8⟩:=Kr (by omega) h.gs hC hm (by omega);rw [Ce (dT (by omega)),Cv (i:=(0:Int)) 0 l[0] rfl (List.getElem?_eq_getElem hc),U3 (by omega) h hpo,sbd];rw [show (mosaic_Node.mk (mosaic_Spec.mk (api_Grid.mk C.spec.Grid.X C.spec.Grid.Y C.spec.Grid.Size C.spec.Grid.Wide C.spec.Grid.High) (api_Span.mk C.spec.Earth.Lo C.spec.Earth.Hi) C.spec.Radars C.spec.Age) C.radars C.horizon C.kept C.count C.looks)=C from rfl,o1,sbd];refine A25 hF h hpx hnm hT hts hl hw hA hA1 hA2 hA3 hB hB1 hB3 o2 (o3.trans hC1) (show tot C'.kept≤25 by omega) hD hD1 (by omega) fun x=>?_;show has C' x∨has D x↔_;rw [o5,←hCD];constructor
  ·rintro ((h1|h1)|h1)
   ·exact .inl h1
   ·exact (hCD x).2 ⟨0,l[0],List.getElem?_eq_getElem hc,h1.1⟩
   ·exact .inr h1
  ·rintro (h1|h1)
   ·exact .inl (.inl h1)
   ·exact .inr h1
 ·rw [B3 (dF (by omega))];exact A25 hF h hpx hnm hT hts hl hw hA hA1 hA2 hA3 hB hB1 hB3 hC hC1 (by omega) hD hD1 (by omega) hCD
theorem Yn {p:List Bool} {n:Nat}:∃v,(gd (((decide ((n:Int)<((p.length:Nat):Int)))==true&&true)) (Bj p (bif ((decide ((n:Int)<((p.length:Nat):Int)))==true&&true) then (n:Int) else default)) default)=some v:=by
 by_cases hc:n<p.length
 ·have e:(decide ((n:Int)<((p.length:Nat):Int))==true&&true)=true:=by rw [dT (by omega)];rfl
  rw [e];refine ⟨p[n],?_⟩;show Bj p (n:Int)=some _;have:=Cv (f:=some) n p[n] (i:=(n:Int)) rfl (List.getElem?_eq_getElem hc)
  simpa using this
 ·have e:(decide ((n:Int)<((p.length:Nat):Int))==true&&true)=false:=by rw [dF (by omega)];rfl
  rw [e];exact ⟨default,rfl⟩
theorem gdg {α β:Type} {g:Bool} {l:List α} {i:Int} {d:α} {f:α→Option β} (n:Nat) (x:α) (hi:i=(n:Int)) (h:l[n]? = some x):(gd g (Bj l i) d).bind f=f (bif g then x else d):=by
 cases g with
 | true=>exact Cv n x hi h
 | false=>rfl
theorem Ym {α β:Type} {o:Option α} {v:α} {f:α→Option β} (h:o=some v):o.bind f=f v:=by rw [h];rfl
theorem A16 {l:List law11_Post} {s:mosaic_Spec} {od:List Int} {i n:Nat} {p:law11_Post} (hi:od[i]? = some (n:Int)) (hp:l[n]? = some p) (x:mosaic_Message):PO l s (od.take (i+1)) x↔PO l s (od.take i) x∨x=K8 p s:=by
 have e:od.take (i+1)=od.take i++[(n:Int)]:=by
  rw [List.take_add_one,hi];rfl
 unfold PO;rw [e];constructor
 ·rintro ⟨m,q,h1,h2,h3⟩;rcases List.mem_append.1 h1 with h1|h1
  ·exact .inl ⟨m,q,h1,h2,h3⟩
  ·have:m=n:=by have:=List.mem_singleton.1 h1;omega
   subst this;rw [hp] at h2
   cases h2
   exact .inr h3
 ·rintro (⟨m,q,h1,h2,h3⟩|h3)
  ·exact ⟨m,q,List.mem_append.2 (.inl h1),h2,h3⟩
  ·exact ⟨n,p,List.mem_append.2 (.inr (.head _)),hp,h3⟩
theorem A45 {F:Nat} {s:mosaic_Spec} {A:mosaic_Node} {T g:Int} {ts od p2:List Int} {p3:List Bool} {l:List law11_Post} (hF:20000≤F) (h:RG F s) (hpx:pix s≤16) (hnm:∀m,okM s m→m.Key.Name.size≤30) (hT:0≤T∧T≤2500) (hts:∀t∈ts,0≤t∧t≤65535) (hl:ts.length≤100) (hw:law11_works F=some true) (hp:∀p∈l,okPost p) (hll:l.length≤20) (ho:Ord od l.length)
  (hA:SN F s A) (hA1:A.horizon=T) (hA2:tot A.kept≤20) (hA3:∀x,has A x↔PM l s x∧T≤x.Key.Time) :
  ∀(n i:Nat) (C D B:mosaic_Node),i≤od.length→od.length-i<n→SN F s B→B.horizon=T→tot B.kept≤i→(∀x,has B x↔PO l s (od.take i) x∧T≤x.Key.Time)→SN F s C→C.horizon=0→tot C.kept≤i→SN F s D→D.horizon=0→tot D.kept≤i→(∀x,has C x∨has D x↔PO l s (od.take i) x) →
   Ch F l p2 p3 ts s T od (g,0,A) n C.spec.Grid.X C.spec.Grid.Y C.horizon C.count C.spec.Grid.Size C.spec.Grid.Wide C.spec.Grid.High C.spec.Earth.Lo C.spec.Earth.Hi C.spec.Radars C.spec.Age D.spec.Grid.X D.spec.Grid.Y D.horizon D.count D.spec.Grid.Size D.spec.Grid.Wide D.spec.Grid.High D.spec.Earth.Lo D.spec.Earth.Hi D.spec.Radars D.spec.Age B.spec.Grid.X B.spec.Grid.Y B.horizon B.count B.spec.Grid.Size B.spec.Grid.Wide B.spec.Grid.High B.spec.Earth.Lo B.spec.Earth.Hi B.spec.Radars B.spec.Age C.radars C.kept C.looks D.radars D.kept D.looks B.radars B.kept B.looks (i:Int)=some true:=by
 intro n
 induction n with
 | zero=>intro i C D B _ h;omega
 | succ n ih =>
  intro i C D B hi hn hB hB1 hB2 hB3 hC hC1 hC2 hD hD1 hD2 hCD;have hol:=ho.1;rw [Ch];unfold G3
  by_cases hc:i<od.length
  ·obtain ⟨k,hk1,hk2⟩:=(ho.2 od[i]).1 (List.getElem_mem hc);have hoi:od[i]? = some (k:Int):=by rw [List.getElem?_eq_getElem hc,hk2]
   have hpk:l[k]? = some l[k]:=List.getElem?_eq_getElem hk1;have hpo:=hp _ (List.getElem_mem hk1);obtain ⟨hm,ht3,htm⟩:=Wb h hpo;have hsn:=A16 (s:=s) hoi hpk;have K7:∀B':mosaic_Node,SN F s B'→B'.horizon=T→tot B'.kept≤i+1→(∀x,has B' x↔PO l s (od.take (i+1)) x∧T≤x.Key.Time)→Do F p3 od C.spec.Grid.X C.spec.Grid.Y C.horizon C.count C.spec.Grid.Size C.spec.Grid.Wide C.spec.Grid.High C.spec.Earth.Lo C.spec.Earth.Hi C.spec.Radars C.spec.Age D.spec.Grid.X D.spec.Grid.Y D.horizon D.count D.spec.Grid.Size D.spec.Grid.Wide D.spec.Grid.High D.spec.Earth.Lo D.spec.Earth.Hi D.spec.Radars D.spec.Age C.radars C.kept C.looks D.radars D.kept D.looks (i:Int) (Ch F l p2 p3 ts s T od (g,0,A) n) (K8 l[k] s) B'.spec.Grid.X B'.spec.Grid.Y B'.horizon B'.count B'.spec.Grid.Size B'.spec.Grid.Wide B'.spec.Grid.High B'.spec.Earth.Lo B'.spec.Earth.Hi B'.spec.Radars B'.spec.Age B'.radars B'.kept B'.looks=some true:=by
    intro B' b1 b2 b3 b4;unfold Do;obtain ⟨v,hv⟩:=Yn (p:=p3) (n:=k);rw [Cv i (k:Int) rfl hoi,gdg i (k:Int) rfl hoi,Ym hv];rw [show (mosaic_Node.mk (mosaic_Spec.mk (api_Grid.mk C.spec.Grid.X C.spec.Grid.Y C.spec.Grid.Size C.spec.Grid.Wide C.spec.Grid.High) (api_Span.mk C.spec.Earth.Lo C.spec.Earth.Hi) C.spec.Radars C.spec.Age) C.radars C.horizon C.kept C.count C.looks)=C from rfl,show (mosaic_Node.mk (mosaic_Spec.mk (api_Grid.mk D.spec.Grid.X D.spec.Grid.Y D.spec.Grid.Size D.spec.Grid.Wide D.spec.Grid.High) (api_Span.mk D.spec.Earth.Lo D.spec.Earth.Hi) D.spec.Radars D.spec.Age) D.radars D.horizon D.kept D.count D.looks)=D from rfl]
    cases (bif (decide ((k:Int)<((p3.length:Nat):Int))) then v else false) with
    | true =>
     obtain ⟨b,e,C',o1,o2,o3,o4,o5,o6,o7,o8⟩:=Kr (by omega) h.gs hC hm (by omega);rw [cond_true,o1,sbd];unfold Dn;rw [ckb (by omega)];refine ih (i+1) C' D B' hc (by omega) b1 b2 b3 b4 o2 (o3.trans hC1) (by omega) hD hD1 (by omega) fun x=>?_;rw [hsn,←hCD,o5,hC1];constructor
     ·rintro ((h1|h1)|h1)
      ·exact .inl (.inl h1)
      ·exact .inr h1.1
      ·exact .inl (.inr h1)
     ·rintro ((h1|h1)|h1)
      ·exact .inl (.inl h1)
      ·exact .inr h1
      ·exact .inl (.inr ⟨h1,htm.1⟩)
    | false =>
     obtain ⟨b,e,D',o1,o2,o3,o4,o5,o6,o7,o8⟩:=Kr (by omega) h.gs hD hm (by omega);rw [cond_false,o1,sbd];unfold Dn;rw [ckb (by omega)];refine ih (i+1) C D' B' hc (by omega) b1 b2 b3 b4 hC hC1 (by omega) o2 (o3.trans hD1) (by omega) fun x=>?_;rw [hsn,←hCD,o5,hD1];constructor
     ·rintro (h1|h1|h1)
      ·exact .inl (.inl h1)
      ·exact .inl (.inr h1)
      ·exact .inr h1.1
     ·rintro ((h1|h1)|h1)
      ·exact .inl h1
      ·exact .inr (.inl h1)
      ·exact .inr (.inr ⟨h1,htm.1⟩)
   obtain ⟨b,e,B',o1,o2,o3,o4,o5,o6,o7,o8⟩:=Kr (by omega) h.gs hB hm (by omega);have hB':∀x,has B' x↔PO l s (od.take (i+1)) x∧T≤x.Key.Time:=by
    intro x;rw [hsn,o5,hB3,hB1];constructor
    ·rintro (h1|⟨rfl,h1⟩)
     ·exact ⟨.inl h1.1,h1.2⟩
     ·exact ⟨.inr rfl,h1⟩
    ·rintro ⟨h1|h1,h2⟩
     ·exact .inl ⟨h1,h2⟩
     ·exact .inr ⟨h1,by rw [←h1];exact h2⟩
   rw [Ce (dT (by omega)),Cv i (k:Int) rfl hoi,Cv k l[k] rfl hpk,U3 (by omega) h hpo,sbd];rw [show (mosaic_Node.mk (mosaic_Spec.mk (api_Grid.mk B.spec.Grid.X B.spec.Grid.Y B.spec.Grid.Size B.spec.Grid.Wide B.spec.Grid.High) (api_Span.mk B.spec.Earth.Lo B.spec.Earth.Hi) B.spec.Radars B.spec.Age) B.radars B.horizon B.kept B.count B.looks)=B from rfl,o1,sbd];have hcond:(bif (!(((b,e,B').2.1==0)==(decide ((K8 l[k] s).Key.Time≥T)))) then true else (bif ((b,e,B').2.1 != 0) then (bif (b,e,B').1 then true else ((b,e,B').2.1 != 17)) else false))=false:=by
    show (bif (!((e==0)==(decide ((K8 l[k] s).Key.Time≥T)))) then true else (bif (e != 0) then (bif b then true else (e != 17)) else false))=false
    by_cases ht:B.horizon≤(K8 l[k] s).Key.Time
    ·obtain ⟨rfl,_,_⟩:=o6 ht;rw [dT (by omega)];rfl
    ·obtain ⟨rfl,rfl,_⟩:=o7 ht;rw [dF (by omega)];rfl
   rw [B3 hcond];have hag:∃u x,(gd (((decide ((i:Int)<((p2.length:Nat):Int)))==true&&true)) (Bj p2 (i:Int)) default)=some u∧(gd (((decide ((i:Int)<((p2.length:Nat):Int)))==true&&true)) (E4 u 2) 0)=some x:=by
    by_cases hc2:i<p2.length
    ·have e:(decide ((i:Int)<((p2.length:Nat):Int))==true&&true)=true:=by rw [dT (by omega)];rfl
     rw [e];refine ⟨p2[i],p2[i].tmod 2,?_,?_⟩
     ·have:=Cv (f:=some) i p2[i] (i:=(i:Int)) rfl (List.getElem?_eq_getElem hc2);show Bj p2 (i:Int)=some p2[i]
      simpa using this
     ·show E4 p2[i] 2=some _;unfold E4;rw [if_neg (by decide)]
    ·have e:(decide ((i:Int)<((p2.length:Nat):Int))==true&&true)=false:=by rw [dF (by omega)];rfl
     rw [e];exact ⟨default,0,rfl,rfl⟩
   obtain ⟨u,x,hu,hx⟩:=hag;rw [Ym hu,Ym hx]
   cases (bif (decide ((i:Int)<((p2.length:Nat):Int))) then (x==0) else false) with
   | false =>
    rw [cond_false];exact K7 B' o2 (o3.trans hB1) (by omega) hB'
   | true =>
    rw [cond_true];obtain ⟨b',e',B'',w1,w2,w3,w4,w5,w6,w7,w8⟩:=Kr (by omega) h.gs o2 hm (by omega);have hB'':b'=false∧e'=e∧B''=B':=by
     by_cases ht:B.horizon≤(K8 l[k] s).Key.Time
     ·obtain ⟨r1,r2,r3⟩:=o6 ht;obtain ⟨s1,s2,s3⟩:=w6 (by rw [o3];exact ht);exact ⟨s2.2 r3,by rw [s1,r1],w8 r3 (by rw [o3];exact ht)⟩
     ·obtain ⟨r1,r2,r3⟩:=o7 ht;obtain ⟨s1,s2,s3⟩:=w7 (by rw [o3];exact ht);exact ⟨s2,by rw [s1,r1],s3⟩
    obtain ⟨rfl,rfl,rfl⟩:=hB'';rw [show (mosaic_Node.mk (mosaic_Spec.mk (api_Grid.mk (b,e',B'').2.2.spec.Grid.X (b,e',B'').2.2.spec.Grid.Y (b,e',B'').2.2.spec.Grid.Size (b,e',B'').2.2.spec.Grid.Wide (b,e',B'').2.2.spec.Grid.High) (api_Span.mk (b,e',B'').2.2.spec.Earth.Lo (b,e',B'').2.2.spec.Earth.Hi) (b,e',B'').2.2.spec.Radars (b,e',B'').2.2.spec.Age) (b,e',B'').2.2.radars (b,e',B'').2.2.horizon (b,e',B'').2.2.kept (b,e',B'').2.2.count (b,e',B'').2.2.looks)=B'' from rfl,w1,sbd];rw [B3 (c:=bif (false,e',B'').1 then true else ((false,e',B'').2.1 != (b,e',B'').2.1)) (by show (bif false then true else (e' != e'))=false;simp)];exact K7 B'' o2 (o3.trans hB1) (by omega) hB'
  ·rw [B3 (dF (by omega))];have e:od.take i=od:=List.take_of_length_le (by omega);rw [e] at hB3 hCD;exact A44 hF h hpx hnm hT hts hl hw hp hA hA1 hA2 hA3 hB hB1 (fun x=>by rw [hB3,Zy ho]) hC hC1 (by omega) hD hD1 (by omega) (fun x=>by rw [hCD,Zy ho])
end Go.Proofs.YtkbjbnkkfifbmaaGreat
namespace Go.Proofs.YtkbjbnkkfifbmaaGreat
open Go Go.RowKit Go.Eng
set_option maxRecDepth 10000
set_option linter.unusedVariables false
set_option linter.unusedSimpArgs false
structure CX (F:Nat) (s:mosaic_Spec) (l:List law11_Post) (ts:List Int) (T:Int):Prop where
 hF:20000≤F
 h:RG F s
 hpx:pix s≤16
 hnm:∀m,okM s m→m.Key.Name.size≤30
 hT:0≤T∧T≤2500
 hts:∀t∈ts,0≤t∧t≤65535
 hl:ts.length≤100
 hw:law11_works F=some true
 hp:∀p∈l,okPost p
 hll:l.length≤20
theorem Ts {F:Nat} {s:mosaic_Spec}:SN F s (B5 s):=⟨Xk,fun k=>.nil,fun k v hv=>by cases hv⟩
theorem A43 {F:Nat} {s:mosaic_Spec} {A:mosaic_Node} {T:Int} {ts od p2:List Int} {p3:List Bool} {l:List law11_Post} (c:CX F s l ts T) (ho:Ord od l.length) (hA:SN F s A) (hA1:A.horizon=0) (hA2:tot A.kept≤20) (hA3:∀x,has A x↔PM l s x) :
  Eh F l p2 p3 ts s (B5 s,0) (B5 s,0) (B5 s,0) T A.spec.Grid.X A.spec.Grid.Y A.horizon A.count A.spec.Grid.Size A.spec.Grid.Wide A.spec.Grid.High A.spec.Earth.Lo A.spec.Earth.Hi A.spec.Radars A.spec.Age A.radars A.kept A.looks od=some true:=by
 obtain ⟨g,A',a1,a2,a3,a4,a5⟩:=P0 hA hA1 (by omega) (h:=T) (by have:=c.hT;omega);obtain ⟨g2,B,b1,b2,b3,b4,b5⟩:=P0 (Ts (F:=F) (s:=s)) rfl (by show (0:Nat)<900;omega) (h:=T) (by have:=c.hT;omega);have hol:=ho.1;have hF:=c.hF;have hll:=c.hll;have e0:Eh F l p2 p3 ts s (B5 s,0) (B5 s,0) (B5 s,0) T A.spec.Grid.X A.spec.Grid.Y A.horizon A.count A.spec.Grid.Size A.spec.Grid.Wide A.spec.Grid.High A.spec.Earth.Lo A.spec.Earth.Hi A.spec.Radars A.spec.Age A.radars A.kept A.looks od =
   (Bf F A T).bind fun y507=>(Bf F (B5 s) T).bind fun y518 =>
   Ch F l p2 p3 ts s T od y507 F (B5 s).spec.Grid.X (B5 s).spec.Grid.Y (B5 s).horizon (B5 s).count (B5 s).spec.Grid.Size (B5 s).spec.Grid.Wide (B5 s).spec.Grid.High (B5 s).spec.Earth.Lo (B5 s).spec.Earth.Hi (B5 s).spec.Radars (B5 s).spec.Age (B5 s).spec.Grid.X (B5 s).spec.Grid.Y (B5 s).horizon (B5 s).count (B5 s).spec.Grid.Size (B5 s).spec.Grid.Wide (B5 s).spec.Grid.High (B5 s).spec.Earth.Lo (B5 s).spec.Earth.Hi (B5 s).spec.Radars (B5 s).spec.Age y518.2.2.spec.Grid.X y518.2.2.spec.Grid.Y y518.2.2.horizon y518.2.2.count y518.2.2.spec.Grid.Size y518.2.2.spec.Grid.Wide y518.2.2.spec.Grid.High y518.2.2.spec.Earth.Lo y518.2.2.spec.Earth.Hi y518.2.2.spec.Radars y518.2.2.spec.Age (B5 s).radars (B5 s).kept (B5 s).looks (B5 s).radars (B5 s).kept (B5 s).looks y518.2.2.radars y518.2.2.kept y518.2.2.looks 0:=rfl
 rw [e0,a1,sbd,b1,sbd];have no:∀x,¬has (B5 s) x:=fun x hx=>by cases hx
 have po:∀x,¬PO l s (od.take 0) x:=fun x ⟨n,p,h1,_⟩=>by cases h1
 refine A45 hF c.h c.hpx c.hnm c.hT c.hts c.hl c.hw c.hp hll ho a2 a3 (by omega) (fun x=>by rw [a5,hA3]) F 0 (B5 s) (B5 s) B (Nat.zero_le _) (by omega) b2 b3 (by have h0:tot (B5 s).kept=0:=rfl;omega) (fun x=>?_) Ts rfl (Nat.le_refl _) Ts rfl (Nat.le_refl _) (fun x=>?_)
 ·rw [b5];exact ⟨fun h=>absurd h.1 (no x),fun h=>absurd h.1 (po x)⟩
 ·exact ⟨fun h=>h.elim (fun h=>absurd h (no x)) (fun h=>absurd h (no x)),fun h=>absurd h (po x)⟩
theorem A07 {l:List Int} {a b:Nat} {u v:Int} (ha:l[a]? = some u) (hb:l[b]? = some v) (x:Int):x∈(l.set a v).set b u↔x∈l:=by
 obtain ⟨ha1,ha2⟩:=List.getElem?_eq_some_iff.1 ha;obtain ⟨hb1,hb2⟩:=List.getElem?_eq_some_iff.1 hb;constructor
 ·intro hx;obtain ⟨i,hi⟩:=List.mem_iff_getElem?.1 hx;rw [List.getElem?_set] at hi
  by_cases h1:b=i
  ·rw [if_pos h1] at hi
   split at hi
   ·cases hi;exact List.mem_iff_getElem?.2 ⟨a,ha⟩
   ·cases hi
  ·rw [if_neg h1,List.getElem?_set] at hi
   by_cases h2:a=i
   ·rw [if_pos h2] at hi
    split at hi
    ·cases hi;exact List.mem_iff_getElem?.2 ⟨b,hb⟩
    ·exact absurd ha1 (by assumption)
   ·rw [if_neg h2] at hi;exact List.mem_iff_getElem?.2 ⟨i,hi⟩
 ·intro hx;obtain ⟨i,hi⟩:=List.mem_iff_getElem?.1 hx;obtain ⟨hi1,hi2⟩:=List.getElem?_eq_some_iff.1 hi;refine List.mem_iff_getElem?.2 ?_
  by_cases h1:i=a
  ·subst h1;rw [ha] at hi;cases hi
   refine ⟨b,?_⟩;rw [List.getElem?_set,if_pos rfl,if_pos (by simpa using hb1)]
  ·by_cases h2:i=b
   ·subst h2;rw [hb] at hi;cases hi
    refine ⟨a,?_⟩;rw [List.getElem?_set,if_neg h1,List.getElem?_set,if_pos rfl,if_pos ha1]
   ·refine ⟨i,?_⟩;rw [List.getElem?_set,if_neg (fun e=>h2 e.symm),List.getElem?_set,if_neg (fun e=>h1 e.symm),hi]
theorem A4h {β:Type} {l:List Int} {i:Int} {v:Int} {f:List Int→Option β} (n:Nat) (hi:i=(n:Int)) (h:n<l.length):(Ub l i v).bind f=f (l.set n v):=by
 subst hi;unfold Ub;rw [if_pos (by omega),Int.toNat_natCast];rfl
theorem A4q {β:Type} {x:Int} {f:Int→Option β} (h:0≤x∧x≤9223372036854775807):(ck x).bind f=f x:=by
 unfold ck;rw [if_pos (by omega)];rfl
theorem A46 {F:Nat} {s:mosaic_Spec} {A:mosaic_Node} {T:Int} {ts p2:List Int} {p3:List Bool} {l:List law11_Post} (c:CX F s l ts T) (hp2:∀y∈p2,0≤y∧y≤255) (hA:SN F s A) (hA1:A.horizon=0) (hA2:tot A.kept≤20) (hA3:∀x,has A x↔PM l s x) :
  ∀(n i:Nat) (od:List Int),i≤p2.length→p2.length-i<n→p2.length≤9223372036854775807→Ord od l.length→Dp F l p2 p3 ts s (B5 s,0) (B5 s,0) (B5 s,0) T A.spec.Grid.X A.spec.Grid.Y A.horizon A.count A.spec.Grid.Size A.spec.Grid.Wide A.spec.Grid.High A.spec.Earth.Lo A.spec.Earth.Hi A.spec.Radars A.spec.Age A.radars A.kept A.looks n od (i:Int)=some true:=by
 intro n
 induction n with
 | zero=>intro i od _ h;omega
 | succ n ih =>
  intro i od hi hn hbig ho;have hol:=ho.1;have hll:=c.hll;rw [Dp];unfold G4
  by_cases hc:i<p2.length∧0<od.length
  ·obtain ⟨hc1,hc2⟩:=hc;have hy:=hp2 _ (List.getElem_mem hc1);have m1:((i:Int)).tmod ((od.length:Nat):Int)=((i%od.length:Nat):Int):=rfl;obtain ⟨y,hyy⟩:∃y:Nat,p2[i]=(y:Int):=⟨p2[i].toNat,by omega⟩;have m2:(p2[i]).tmod ((od.length:Nat):Int)=((y%od.length:Nat):Int):=by rw [hyy];rfl
   have ha:=Nat.mod_lt i hc2;have hb:=Nat.mod_lt y hc2;have ga:od[i%od.length]? = some od[i%od.length]:=List.getElem?_eq_getElem ha;have gb:od[y%od.length]? = some od[y%od.length]:=List.getElem?_eq_getElem hb;rw [Ce (c:=bif (decide ((i:Int)<((p2.length:Nat):Int))) then (decide (((od.length:Nat):Int)>0)) else false) (by rw [dT (by omega)];exact dT (by omega))];rw [Gt (by omega),m1,Cv i p2[i] rfl (List.getElem?_eq_getElem hc1),ckb (by omega),Gt (by omega),m2,Cv (y%od.length) _ rfl gb,Cv (i%od.length) _ rfl ga,Cv (i%od.length) _ rfl ga,A4h (i%od.length) rfl ha];have gc:∃z,(od.set (i%od.length) od[y%od.length])[y%od.length]? = some z:=⟨_,List.getElem?_eq_getElem (by simpa using hb)⟩;obtain ⟨z,gc⟩:=gc;rw [Cv (y%od.length) z rfl gc,A4h (y%od.length) rfl (by simpa using hb),A4q (by omega)];refine ih (i+1) _ hc1 (by omega) hbig ⟨by simpa using hol,fun j=>?_⟩;rw [A07 ga gb,ho.2]
  ·rw [B3 (c:=bif (decide ((i:Int)<((p2.length:Nat):Int))) then (decide (((od.length:Nat):Int)>0)) else false) (by
    by_cases h1:i<p2.length
    ·rw [dT (by omega)];exact dF (by omega)
    ·rw [dF (by omega)];rfl)]
   exact A43 c ho hA hA1 hA2 hA3
theorem A47 {F:Nat} {s:mosaic_Spec} {T:Int} {ts p2:List Int} {p3:List Bool} {l:List law11_Post} (c:CX F s l ts T) (hp2:∀y∈p2,0≤y∧y≤255) (hbig:p2.length≤9223372036854775807) (hF2:p2.length<F) :
  ∀(n i:Nat) (A:mosaic_Node) (od:List Int),i≤l.length→l.length-i<n→SN F s A→A.horizon=0→tot A.kept≤i→(∀x,has A x↔∃(k:Nat) (p:law11_Post),k<i∧l[k]? = some p∧x=K8 p s)→Ord od i →
   Dq F l p2 p3 ts s (B5 s,0) (B5 s,0) (B5 s,0) T n A.spec.Grid.X A.spec.Grid.Y A.horizon A.count A.spec.Grid.Size A.spec.Grid.Wide A.spec.Grid.High A.spec.Earth.Lo A.spec.Earth.Hi A.spec.Radars A.spec.Age A.radars A.kept A.looks od (i:Int)=some true:=by
 intro n
 induction n with
 | zero=>intro i A od _ h;omega
 | succ n ih =>
  intro i A od hi hn hA hA1 hA2 hA3 ho;have hF:=c.hF;have hll:=c.hll;have hol:=ho.1;rw [Dq];unfold G5
  by_cases hc:i<l.length
  ·have hpo:=c.hp _ (List.getElem_mem hc);obtain ⟨hm,ht3,htm⟩:=Wb c.h hpo;obtain ⟨b,e,A',o1,o2,o3,o4,o5,o6,o7,o8⟩:=Kr (by omega) c.h.gs hA hm (by omega);obtain ⟨rfl,_,_⟩:=o6 (by rw [hA1];exact htm.1);rw [Ce (dT (by omega)),Cv i l[i] rfl (List.getElem?_eq_getElem hc),U3 (by omega) c.h hpo,sbd];rw [show (mosaic_Node.mk (mosaic_Spec.mk (api_Grid.mk A.spec.Grid.X A.spec.Grid.Y A.spec.Grid.Size A.spec.Grid.Wide A.spec.Grid.High) (api_Span.mk A.spec.Earth.Lo A.spec.Earth.Hi) A.spec.Radars A.spec.Age) A.radars A.horizon A.kept A.count A.looks)=A from rfl,o1,sbd,B3 (c:=((b,(0:Int),A').2.1 != 0)) rfl,Lt (by simp;omega) (by decide),ckb (by omega)];refine ih (i+1) A' _ hc (by omega) o2 (o3.trans hA1) (by omega) (fun x=>?_) ⟨by simp;omega,fun j=>?_⟩
   ·rw [o5,hA3,hA1];constructor
    ·rintro (⟨k,p,h1,h2,h3⟩|⟨h1,h2⟩)
     ·exact ⟨k,p,by omega,h2,h3⟩
     ·exact ⟨i,l[i],by omega,List.getElem?_eq_getElem hc,h1⟩
    ·rintro ⟨k,p,h1,h2,h3⟩
     by_cases hk:k=i
     ·subst hk;rw [List.getElem?_eq_getElem hc] at h2
      cases h2
      exact .inr ⟨h3,htm.1⟩
     ·exact .inl ⟨k,p,by omega,h2,h3⟩
   ·rw [List.mem_append,ho.2,List.mem_singleton];constructor
    ·rintro (⟨k,h1,h2⟩|h1)
     ·exact ⟨k,by omega,h2⟩
     ·exact ⟨i,by omega,h1⟩
    ·rintro ⟨k,h1,h2⟩
     by_cases hk:k=i
     ·subst hk;exact .inr h2
     ·exact .inl ⟨k,by omega,h2⟩
  ·have hil:i=l.length:=by omega
   subst hil;rw [B3 (dF (by omega))];unfold G6;refine A46 c hp2 hA hA1 (by omega) (fun x=>?_) F 0 od (Nat.zero_le _) (by omega) hbig ho;rw [hA3];exact ⟨fun ⟨k,p,_,h2,h3⟩=>⟨k,p,h2,h3⟩,fun ⟨k,p,h2,h3⟩=>⟨k,p,(List.getElem?_eq_some_iff.1 h2).1,h2,h3⟩⟩
theorem Ya (k:Nat):law11_works (k+20000)=some true:=by kernel_rfl
theorem Tc (n:law11_Net) (l:List law11_Post) (p2:List Int) (p3:List Bool) (ts:List Int) (z:Int) (hn:T1 n) (hl:∀p∈l,okPost p) (hbig:p2.length≤9223372036854775807) (hp2:∀y∈p2,0≤y∧y≤255) (hts:∀t∈ts,0≤t∧t≤65535) (hz:0≤z∧z≤65535):Gk (p2.length+20000) n l p2 p3 ts z=some true:=by
 have hw:=Ya p2.length;generalize hF:p2.length+20000=F at hw ⊢;have h:=A1e (F:=F) hn;have hT:=tm hz.1 (y:=2500) (by omega);obtain ⟨T,eT⟩:∃T,T=z.tmod 2500:=⟨_,rfl⟩;rw [←eT] at hT;have hP:pix (Hs n)≤16:=by
  have h':=hn;obtain ⟨hw,hh,_,_,_⟩:=h';have t1:=tm hw.1 (y:=4) (by omega);have t2:=tm hh.1 (y:=4) (by omega);have hm:=L6 (x:=1+n.Wide.tmod 4) (y:=1+n.High.tmod 4) (A:=4) (B:=4) (by omega) (by omega);unfold pix Hs;dsimp only;omega
 have hnm:∀m,okM (Hs n) m→m.Key.Name.size≤30:=by
  intro m hm;obtain ⟨r,hr⟩:=hm.key.1;have hname:=(h.gs.r _ _ hr).2.2.2.2;rw [Qk h] at hr;obtain ⟨i,x,hx,rfl⟩:=Xb hn r (List.mem_of_find?_eq_some hr);rw [←hname];show (nmR i).size≤30;unfold nmR
  split
  ·decide
  ·split<;>decide
 unfold Gk
 by_cases hc:l.length≤20∧ts.length≤10
 ·obtain ⟨hc1,hc2⟩:=hc;have c:CX F (Hs n) l ts T:=⟨by omega,h,hP,hnm,by omega,hts,by omega,hw,hl,hc1⟩;rw [B3 (c:=bif (decide (((l.length:Nat):Int)>20)) then true else (decide (((ts.length:Nat):Int)>10))) (by rw [dF (by omega),dF (by omega)];rfl)];have e:Fo F (law11_Net.mk n.Wide n.High ((law11_Station.mk n.Stations.1.X n.Stations.1.Y n.Stations.1.Z n.Stations.1.Rose n.Stations.1.Gates n.Stations.1.Width n.Stations.1.Lo n.Stations.1.Hi),(law11_Station.mk n.Stations.2.1.X n.Stations.2.1.Y n.Stations.2.1.Z n.Stations.2.1.Rose n.Stations.2.1.Gates n.Stations.2.1.Width n.Stations.2.1.Lo n.Stations.2.1.Hi),(law11_Station.mk n.Stations.2.2.X n.Stations.2.2.Y n.Stations.2.2.Z n.Stations.2.2.Rose n.Stations.2.2.Gates n.Stations.2.2.Width n.Stations.2.2.Lo n.Stations.2.2.Hi)) n.Count n.Age)=some (Hs n):=A0y (by omega) hn;have eo:∀{β:Type} (f:Int→Option β) (g:mosaic_Node×Int→Option β),exc (.ok (B5 (Hs n),0)) f g=g (B5 (Hs n),0):=fun _ _=>rfl;rw [e,sbd,A29 (by omega) h,sbd,eo,sbd,eo,sbd,eo,sbd,eo,B3 (c:=bif (bif (bif ((B5 (Hs n),(0:Int)).2 != 0) then true else ((B5 (Hs n),(0:Int)).2 != 0)) then true else ((B5 (Hs n),(0:Int)).2 != 0)) then true else ((B5 (Hs n),(0:Int)).2 != 0)) rfl,ckb (by omega),Gt (by omega),←eT];exact A47 c hp2 hbig (by omega) F 0 (B5 (Hs n)) [] (Nat.zero_le _) (by omega) Ts rfl (Nat.le_refl _) (fun x=>⟨fun h=>(by cases h),fun ⟨k,p,h1,_⟩=>by omega⟩) ⟨rfl,fun j=>⟨fun h=>(by cases h),fun ⟨k,h1,_⟩=>by omega⟩⟩
 ·rw [Ce (c:=bif (decide (((l.length:Nat):Int)>20)) then true else (decide (((ts.length:Nat):Int)>10))) (by
   by_cases h1:l.length>20
   ·rw [dT (by omega)];rfl
   ·rw [dF (by omega)];exact dT (by omega)),hw]
  rfl
end Go.Proofs.YtkbjbnkkfifbmaaGreat
