import Derived.Test.YtkbjbnkkfifbmaaN3WkD
set_option linter.unusedVariables false
set_option linter.unusedSimpArgs false
set_option linter.unusedSectionVars false
namespace Go.Proofs.Ytkbjbnkkfifbmaa
open Go Go.RowKit Go.Eng
set_option maxRecDepth 10000
set_option linter.unusedVariables false
set_option linter.unusedSimpArgs false
theorem ckb {β:Type} {x:Int} {f:Int→Option β} (h:-9000000000000000000≤x∧x≤9000000000000000000):(ck x).bind f=f x:=by
 unfold ck;rw [if_pos (by omega)];rfl
theorem gdT {α:Type} {g:Bool} {o:Option α} {d:α} (h:g=true):gd g o d=o:=by subst h;rfl
theorem gdF {α:Type} {g:Bool} {o:Option α} {d:α} (h:g=false):gd g o d=some d:=by subst h;rfl
theorem D0 {α:Type} {c:Bool} {x y:α} (h:c=true):(bif c then x else y)=x:=by rw [h];rfl
theorem Bp {α:Type} {c:Bool} {x y:α} (h:c=false):(bif c then x else y)=y:=by rw [h];rfl
theorem sbd {α β:Type} {x:α} {f:α→Option β}:(some x).bind f=f x:=rfl
theorem dT {p:Prop} [Decidable p] (h:p):decide p=true:=decide_eq_true h
theorem dF {p:Prop} [Decidable p] (h:¬p):decide p=false:=decide_eq_false h
theorem F6 {α β:Type} {l:List α} {i:Int} {f:α→Option β} (n:Nat) (x:α) (hi:i=(n:Int)) (h:l[n]? = some x):(Bz l i).bind f=f x:=by
 subst hi;unfold Bz;rw [if_pos (by omega),show ((n:Int)).toNat=n by omega,h];rfl
theorem Ln {α β:Type} {l k:List α} {B:Nat} {f:List α→Option β} (h:(l.length+k.length)*B≤140737488355328) (hB:1≤B):(apd B l k).bind f=f (l++k):=by
 unfold apd;have:l.length+k.length≤(l.length+k.length)*B:=Nat.le_mul_of_pos_right _ hB;rw [if_pos ⟨h,by omega⟩];rfl
theorem Z7 {x:Int} (h:-9000000000000000000≤x∧x≤9000000000000000000):IntKind.i64.wrap x=x:=by rw [IntKind.wrap_i64];omega
theorem Qd {x y A B:Int} (hx:-A≤x∧x≤A) (hy:-B≤y∧y≤B):-(A*B)≤x*y∧x*y≤A*B:=by
 have h1:(x*y).natAbs≤A.natAbs*B.natAbs:=by rw [Int.natAbs_mul];exact Nat.mul_le_mul (by omega) (by omega)
 have h2:0≤A*B:=Int.mul_nonneg (by omega) (by omega);have h3:(A*B).natAbs=A.natAbs*B.natAbs:=Int.natAbs_mul A B;omega
theorem Hl {x y A B:Int} (hx:0≤x∧x≤A) (hy:0≤y∧y≤B):0≤x*y∧x*y≤A*B :=
 ⟨Int.mul_nonneg hx.1 hy.1,(Qd (A:=A) (B:=B) ⟨by omega,hx.2⟩ ⟨by omega,hy.2⟩).2⟩
theorem V2 {β:Type} {x y:Int} {f:Int→Option β} (hx:0≤x) (hx2:x≤9000000000000000000) (hy:0<y):(Kj x y).bind f=f (x/y):=by
 unfold Kj;rw [if_neg (by omega),Int.tdiv_eq_ediv_of_nonneg hx,ckb];have h1:0≤x/y:=Int.ediv_nonneg hx (by omega);have h2:x/y≤x:=Int.ediv_le_self _ hx;omega
structure VS (s:api_Site):Prop where
 x:-1048576≤s.X∧s.X≤1048576
 y:-1048576≤s.Y∧s.Y≤1048576
 z:0≤s.Z∧s.Z≤20000
 rose:1≤s.Rose∧s.Rose≤90
 gates:1≤s.Gates∧s.Gates≤200
 step:50≤s.Step∧s.Step≤2000
 width:0≤s.Width∧s.Width≤8
structure VG (g:api_Grid):Prop where
 x:-1048576≤g.X∧g.X≤1048576
 y:-1048576≤g.Y∧g.Y≤1048576
 size:1≤g.Size∧g.Size≤10000
 wide:1≤g.Wide∧g.Wide≤64
 high:1≤g.High∧g.High≤64
theorem D5 {n a b:Int} (h:a≤n∧n≤b):A4 n a b=true:=by unfold A4;rw [dT h.1,dT h.2];rfl
theorem Li {g:api_Grid} (h:VG g):B3 g=0:=by
 unfold B3 Br;rw [D5 h.x,D5 h.y,D5 h.size,D5 h.wide,D5 h.high];rfl
theorem Pp {F:Nat} {s:api_Site} (h:VS s) (hn:J8 F s.Name=some true):beam_CheckSite F s=some 0:=by
 unfold beam_CheckSite;rw [hn,sbd,D5 h.x,D5 h.y,D5 h.z];simp only [Bool.not_true,cond_false];unfold Cs Ca;rw [D5 h.rose,D5 h.gates,D5 h.step,D5 h.width];rfl
def slt (t:Int):beam_slant:=⟨262144-t*t,1024*t,262144+t*t⟩
theorem sqB {t:Int} (h:-264≤t∧t≤264):0≤t*t∧t*t≤69696:=by
 have h1:=Qd (A:=264) (B:=264) h h;have h2:0≤t*t:=by
  rcases Int.le_total 0 t with h|h
  ·exact Int.mul_nonneg h h
  ·exact Int.mul_nonneg_of_nonpos_of_nonpos h h
 exact ⟨h2,by omega⟩
theorem Hp {F:Nat} {t:Int} (h:-264≤t∧t≤264):Cz F t=some (slt t):=by
 have h1:=sqB h;unfold Cz;rw [ckb (by omega),ckb (by omega),ckb (by omega),ckb (by omega),ckb (by omega)];rfl
theorem P7 {F:Nat} {s:api_Site} {t j:Int} (hs:VS s) (ht:0≤t∧t≤256) (hj:0≤j∧j≤200):∃b,Et F j s (slt t)=some b∧0≤b∧b≤400000:=by
 have h1:=sqB (t:=t) (by omega);have h2:=hs.step;have h3:=Hl (x:=j) (y:=s.Step) (A:=200) (B:=2000) hj (by omega);have h4:=Hl (x:=j*s.Step) (y:=262144-t*t) (A:=400000) (B:=262144) (by omega) (by omega);refine ⟨(j*s.Step*(262144-t*t))/(262144+t*t),?_,Int.ediv_nonneg (by omega) (by omega),?_⟩
 ·unfold Et slt;dsimp only;rw [ckb (by omega),ckb (by omega),V2 (by omega) (by omega) (by omega)]
 ·refine Int.ediv_le_of_le_mul (by omega) ?_;have h5:j*s.Step*(262144-t*t)≤400000*(262144-t*t):=Int.mul_le_mul_of_nonneg_right (by omega) (by omega);omega
theorem Yf {F:Nat} {s:api_Site} {t w:Int} (hs:VS s) (ht:0≤t∧t≤256):∀(n:Nat) (lo hi:Int),0≤lo→lo<hi→hi≤s.Gates→hi-lo≤n→∃j,F4 F s w (slt t) n lo hi=some j∧0≤j∧j<s.Gates:=by
 intro n;have hg:=hs.gates
 induction n with
 | zero=>intro lo hi _ _ _ h;omega
 | succ n ih =>
  intro lo hi h0 h1 h2 h3;unfold F4 Hc;rw [ckb (by omega)]
  by_cases hc:hi-lo>1
  ·rw [D0 (dT hc),ckb (by omega),V2 (by omega) (by omega) (by omega)];obtain ⟨b,hb,b0,b1⟩:=P7 (F:=F) (t:=t) (j:=(lo+hi)/2) hs ht (by omega);have hbb:=Hl (x:=b) (y:=b) ⟨b0,b1⟩ ⟨b0,b1⟩;rw [hb,sbd,sbd,ckb (by omega)]
   by_cases hw:b*b≤w
   ·rw [D0 (dT hw)];exact ih _ _ (by omega) (by omega) h2 (by omega)
   ·rw [Bp (dF hw)];exact ih _ _ h0 (by omega) (by omega) (by omega)
  ·rw [Bp (dF hc)];exact ⟨lo,rfl,h0,by omega⟩
theorem Vr {F:Nat} {s:api_Site} {t w:Int} (hF:200≤F) (hs:VS s) (ht:0≤t∧t≤256):∃j,Ja F s t w=some j∧j<s.Gates∧-1≤j:=by
 have hg:=hs.gates;obtain ⟨b,hb,b0,b1⟩:=P7 (F:=F) (t:=t) (j:=s.Gates) hs ht (by omega);have hbb:=Hl (x:=b) (y:=b) ⟨b0,b1⟩ ⟨b0,b1⟩;unfold Ja;rw [Hp (by omega),sbd,hb,sbd,ckb (by omega)]
 by_cases hw:w≥b*b
 ·rw [D0 (dT hw)];exact ⟨-1,rfl,by omega,by omega⟩
 ·rw [Bp (dF hw)];obtain ⟨j,hj,j0,j1⟩:=Yf (F:=F) (w:=w) hs ht F 0 s.Gates (by omega) (by omega) (by omega) (by omega);exact ⟨j,hj,j1,by omega⟩
theorem Q0 {F:Nat} {r a:Int} (hr:1≤r∧r≤90) (ha:0≤a∧a<r):Es F r a=some ⟨2*r*a,r*r-a*a,r*r+a*a⟩:=by
 have h1:=Hl (x:=r) (y:=r) (A:=90) (B:=90) (by omega) (by omega);have h2:=Hl (x:=a) (y:=a) (A:=90) (B:=90) (by omega) (by omega);have h3:=Hl (x:=2*r) (y:=a) (A:=180) (B:=90) (by omega) (by omega);have e1:Da a r=some a:=by unfold Da;rw [if_neg (by omega),Int.tmod_eq_of_lt ha.1 ha.2]
 have e2:Kj a r=some 0:=by unfold Kj;rw [if_neg (by omega),Int.tdiv_eq_zero_of_lt ha.1 ha.2];rfl
 unfold Es;rw [e1,sbd,ckb (by omega),ckb (by omega),ckb (by omega),ckb (by omega),ckb (by omega),ckb (by omega),ckb (by omega),ckb (by omega),e2,sbd];rfl
theorem Yv {F:Nat} {r x y q:Int} (hr:1≤r∧r≤90) (hx:-10000000≤x∧x≤10000000) (hy:-10000000≤y∧y≤10000000) (hq:0≤q∧q≤4):∀(n:Nat) (lo hi:Int),0≤lo→lo<hi→hi≤r→hi-lo≤n→∃j,Fu F r x y q n lo hi=some j∧0≤j∧j≤450:=by
 intro n
 induction n with
 | zero=>intro lo hi _ _ _ h;omega
 | succ n ih =>
  intro lo hi h0 h1 h2 h3;unfold Fu Hu;rw [ckb (by omega)]
  by_cases hc:hi-lo>1
  ·rw [D0 (dT hc),ckb (by omega),V2 (by omega) (by omega) (by omega),Q0 hr (by omega),sbd];obtain ⟨m,hm⟩:∃m,m=(lo+hi)/2:=⟨_,rfl⟩;rw [←hm];have k1:=Hl (x:=r) (y:=r) (A:=90) (B:=90) (by omega) (by omega);have k2:=Hl (x:=m) (y:=m) (A:=90) (B:=90) (by omega) (by omega);have k3:=Hl (x:=2*r) (y:=m) (A:=180) (B:=90) (by omega) (by omega);have k4:=Qd (x:=r*r-m*m) (y:=x) (A:=16200) (B:=10000000) (by omega) hx;have k5:=Qd (x:=2*r*m) (y:=y) (A:=16200) (B:=10000000) (by omega) hy;unfold Er;dsimp only;rw [ckb (by omega),ckb (by omega),sbd]
   cases decide ((r*r-m*m)*x≥2*r*m*y) with
   | true=>exact ih _ _ (by omega) (by omega) h2 (by omega)
   | false=>exact ih _ _ h0 (by omega) (by omega) (by omega)
  ·rw [Bp (dF hc)];have k1:=Hl (x:=q) (y:=r) (A:=4) (B:=90) hq (by omega);unfold Hw;rw [ckb (by omega),ckb (by omega)];exact ⟨_,rfl,by omega,by omega⟩
theorem Y0 {F:Nat} {r x y:Int} (hF:100≤F) (hr:1≤r∧r≤90) (hx:-10000000≤x∧x≤10000000) (hy:-10000000≤y∧y≤10000000) (h0:¬(x=0∧y=0)):∃j,K6 F r x y=some j∧0≤j∧j≤450:=by
 have step:∀(n:Nat) (x y q:Int),-10000000≤x∧x≤10000000→-10000000≤y∧y≤10000000→0≤q∧q≤4 →
   ((x<0∨y≤0)∧Df F r (n+1) x y q=Df F r n (-y) x (q+1))∨(¬(x<0∨y≤0)∧∃j,Df F r (n+1) x y q=some j∧0≤j∧j≤450):=by
  intro n x y q hx hy hq
  by_cases hc:x<0∨y≤0
  ·refine .inl ⟨hc,?_⟩;rw [Df];unfold Gx;have e:(bif (decide (x<0)) then true else (decide (y≤0)))=true:=by
    rcases hc with h|h
    ·rw [dT h];rfl
    ·rw [dT h];cases decide (x<0)<;>rfl
   rw [e,cond_true,ckb (by omega),Z7 (by omega),show 0-y=-y by omega]
  ·refine .inr ⟨hc,?_⟩;rw [Df];unfold Gx Hv;have e:(bif (decide (x<0)) then true else (decide (y≤0)))=false:=by rw [dF (by omega),dF (by omega)];rfl
   rw [e,cond_false];exact Yv hr hx hy hq F 0 r (by omega) (by omega) (by omega) (by omega)
 obtain ⟨n,rfl⟩:∃n,F=n+4:=⟨F-4,by omega⟩;unfold K6;rcases step (n+3) x y 0 hx hy (by omega) with ⟨c1,e1⟩|⟨_,h⟩
 ·rw [e1];rcases step (n+2) (-y) x (0+1) (by omega) hx (by omega) with ⟨c2,e2⟩|⟨_,h⟩
  ·rw [e2];rcases step (n+1) (-x) (-y) (0+1+1) (by omega) (by omega) (by omega) with ⟨c3,e3⟩|⟨_,h⟩
   ·rw [e3];rcases step n (- -y) (-x) (0+1+1+1) (by omega) (by omega) (by omega) with ⟨c4,e4⟩|⟨_,h⟩
    ·omega
    ·exact h
   ·exact h
  ·exact h
 ·exact h
theorem Vp {F:Nat} {s:api_Site} {t x y:Int} (hF:200≤F) (hs:VS s) (ht:0≤t∧t≤256) (hx:-3000000≤x∧x≤3000000) (hy:-3000000≤y∧y≤3000000) :
  ∃a j b,J9 F s t x y=some (a,j,b)∧(0≤a∧a≤450)∧(0≤j∧j<s.Gates):=by
 have h1:=hs.x;have h2:=hs.y;have hg:=hs.gates;unfold J9;rw [ckb (by omega),ckb (by omega)]
 by_cases hc:x-s.X=0∧y-s.Y=0
 ·rw [hc.1,hc.2];exact ⟨0,0,true,rfl,by omega,by omega⟩
 ·have e:(bif (x-s.X==0) then (y-s.Y==0) else false)=false:=by
   cases h:(x-s.X==0) with
   | false=>rfl
   | true =>
    cases h':(y-s.Y==0) with
    | false=>rfl
    | true=>exact absurd ⟨by simpa using h,by simpa using h'⟩ hc
  have k1:=Qd (x:=x-s.X) (y:=x-s.X) (A:=5000000) (B:=5000000) (by omega) (by omega);have k2:=Qd (x:=y-s.Y) (y:=y-s.Y) (A:=5000000) (B:=5000000) (by omega) (by omega);rw [Bp e,ckb (by omega),ckb (by omega),ckb (by omega)];obtain ⟨j,hj,j1,j0⟩:=Vr (F:=F) (t:=t) (w:=(x-s.X)*(x-s.X)+(y-s.Y)*(y-s.Y)) hF hs ht;rw [hj,sbd]
  by_cases hn:j<0
  ·rw [D0 (dT hn)];exact ⟨0,0,false,rfl,by omega,by omega⟩
  ·rw [Bp (dF hn)];obtain ⟨a,ha,a0,a1⟩:=Y0 (F:=F) (r:=s.Rose) (x:=x-s.X) (y:=y-s.Y) (by omega) hs.rose (by omega) (by omega) hc;rw [ha,sbd];exact ⟨a,j,true,rfl,by omega,by omega⟩
theorem Wv {F:Nat} {s:api_Site} {t:Int} {g:api_Grid} {row:Int} (hF:200≤F) (hs:VS s) (hg:VG g) (ht:0≤t∧t≤256) (hr:0≤row∧row<64) (k2:List Int→Int→Option (List Int×Int)) :
  ∀(n:Nat) (m:Nat) (l:List Int) (c:Int),0≤c→c+m=g.Wide→m<n→l.length+m≤10000→∃l',E6 F s t g row k2 n l c=k2 l' (row+1)∧l'.length=l.length+m:=by
 have hw:=hg.wide;have hz:=hg.size;have hX:=hg.x;have hY:=hg.y;intro n
 induction n with
 | zero=>intro m l c _ _ h;omega
 | succ n ih =>
  intro m l c h0 h1 h2 h3;rw [E6];unfold Ha
  by_cases hc:c<g.Wide
  ·have k1:=Hl (x:=c) (y:=g.Size) (A:=64) (B:=10000) (by omega) (by omega);have k2':=Hl (x:=row) (y:=g.Size) (A:=64) (B:=10000) (by omega) (by omega);rw [D0 (dT hc),ckb (by omega),ckb (by omega),V2 (by omega) (by omega) (by omega),ckb (by omega),ckb (by omega),ckb (by omega),V2 (by omega) (by omega) (by omega),ckb (by omega)];obtain ⟨a,j,b,hf,ha,hj⟩:=Vp (F:=F) (t:=t) (x:=g.X+c*g.Size+g.Size/2) (y:=g.Y+row*g.Size+g.Size/2) hF hs ht (by omega) (by omega);rw [hf,sbd];have hgt:=hs.gates;have k3:=Hl (x:=a) (y:=s.Gates) (A:=450) (B:=200) ha (by omega);have fin:∀v:Int,∃l',F3 l c (E6 F s t g row k2 n) v=k2 l' (row+1)∧l'.length=l.length+m:=by
    intro v;unfold F3;rw [Ln (by simp;omega) (by decide),ckb (by omega)];obtain ⟨l',e,h⟩:=ih (m-1) (l++[v]) (c+1) (by omega) (by omega) (by omega) (by simp;omega);exact ⟨l',e,by rw [h];simp;omega⟩
   cases b with
   | true =>
    simp only [cond_true];rw [ckb (by omega),ckb (by omega)];exact fin _
   | false=>exact fin _
  ·rw [Bp (dF hc)];unfold Hb;rw [ckb (by omega)];exact ⟨l,rfl,by omega⟩
theorem Wu {F:Nat} {s:api_Site} {t:Int} {g:api_Grid} (hF:200≤F) (hs:VS s) (hg:VG g) (ht:0≤t∧t≤256) :
  ∀(n:Nat) (m:Nat) (l:List Int) (r:Int),0≤r→r+m=g.High→m<n→l.length+m*g.Wide.toNat≤5000→∃l',E5 F s t g n l r=some (l',0)∧l'.length=l.length+m*g.Wide.toNat:=by
 have hw:=hg.wide;have hh:=hg.high;intro n
 induction n with
 | zero=>intro m l c _ _ h;omega
 | succ n ih =>
  intro m l r h0 h1 h2 h3;rw [E5];unfold H9
  by_cases hc:r<g.High
  ·rw [D0 (dT hc)];obtain ⟨l',e,hl⟩:=Wv (F:=F) (s:=s) (t:=t) (g:=g) (row:=r) hF hs hg ht (by omega) (E5 F s t g n) F g.Wide.toNat l 0 (by omega) (by omega) (by omega) (by omega);rw [e];obtain ⟨k,rfl⟩:∃k,m=k+1:=⟨m-1,by omega⟩;rw [Nat.add_mul] at h3 ⊢;obtain ⟨l2,e2,hl2⟩:=ih k l' (r+1) (by omega) (by omega) (by omega) (by omega);exact ⟨l2,e2,by omega⟩
  ·rw [Bp (dF hc)];have:m=0:=by omega
   subst this;exact ⟨l,rfl,by simp⟩
theorem Vh {F:Nat} {s:api_Site} {t:Int} {g:api_Grid} (hF:200≤F) (hn:beam_CheckSite F s=some 0) (hs:VS s) (hg:VG g) (ht:0≤t∧t≤256) :
  ∃l,Gc F s t g=some (l,0)∧l.length=(g.Wide*g.High).toNat:=by
 have hw:=hg.wide;have hh:=hg.high;have k1:=Hl (x:=g.Wide) (y:=g.High) (A:=64) (B:=64) (by omega) (by omega);have k2:((g.High.toNat*g.Wide.toNat:Nat):Int)=g.Wide*g.High:=by
  rw [Int.natCast_mul,Int.toNat_of_nonneg (by omega),Int.toNat_of_nonneg (by omega),Int.mul_comm]
 unfold Gc;rw [hn,sbd,Li hg,D5 ht];simp only [bne_self_eq_false,cond_false,Bool.not_true];rw [ckb (by omega),show mk0 8 (g.Wide*g.High)=some (g.Wide*g.High).toNat from by unfold mk0;rw [if_pos (by omega)],sbd];obtain ⟨l,e,hl⟩:=Wu (F:=F) (t:=t) hF hs hg ht F g.High.toNat [] 0 (by omega) (by omega) (by omega) (by simp;omega);exact ⟨l,e,by rw [hl];simp;omega⟩
end Go.Proofs.Ytkbjbnkkfifbmaa
namespace Go.Proofs.Ytkbjbnkkfifbmaa
open Go Go.RowKit Go.Eng
set_option maxRecDepth 10000
set_option linter.unusedVariables false
set_option linter.unusedSimpArgs false
theorem Lt {a b f:Int} (hb:0<b) (h1:f*b≤a) (h2:a<f*b+b):a/b=f:=by
 have g1:=Int.ediv_mul_le a (show b≠0 by omega);have g2:a<a/b*b+b:=by have:=Int.lt_ediv_add_one_mul_self a hb;rw [Int.add_mul] at this;omega
 rcases Int.lt_trichotomy (a/b) f with h|h|h
 ·have:=Int.mul_le_mul_of_nonneg_right (show a/b+1≤f by omega) (show 0≤b by omega);rw [Int.add_mul] at this;omega
 ·exact h
 ·have:=Int.mul_le_mul_of_nonneg_right (show f+1≤a/b by omega) (show 0≤b by omega);rw [Int.add_mul] at this;omega
theorem Hs (a b:Int) (hb:0<b):(0≤a∧a.tdiv b=a/b)∨(a<0∧a.tdiv b=-(-a/b)):=by
 rcases Int.lt_or_le a 0 with h|h
 ·right;refine ⟨h,?_⟩;have e:a=- -a:=by omega
  have:(- -a).tdiv b=-((-a).tdiv b):=Int.neg_tdiv (-a) b;rw [e,this,Int.tdiv_eq_ediv_of_nonneg (by omega),Int.neg_neg]
 ·exact .inl ⟨h,Int.tdiv_eq_ediv_of_nonneg h⟩
theorem Pk {a b A:Int} (hb:0<b) (ha:-A≤a∧a≤A):-A≤a.tdiv b∧a.tdiv b≤A:=by
 rcases Hs a b hb with ⟨h,e⟩|⟨h,e⟩
 ·rw [e];have:=Int.ediv_le_self b h;have:=Int.ediv_nonneg h (show 0≤b by omega);omega
 ·rw [e];have:=Int.ediv_le_self b (show 0≤-a by omega);have:=Int.ediv_nonneg (show 0≤-a by omega) (show 0≤b by omega);omega
theorem Db (a:Int) {b:Int} (hb:0<b):a/b*b≤a∧a<a/b*b+b:=by
 refine ⟨Int.ediv_mul_le a (by omega),?_⟩;have:=Int.lt_ediv_add_one_mul_self a hb;rw [Int.add_mul] at this;omega
theorem Q1 {F:Nat} {a b:Int} (hb:0<b) (ha:-1000000000000000000≤a∧a≤1000000000000000000):Gd F a b=some (a/b):=by
 have hq:=Pk hb ha;have hm:-2000000000000000000≤a.tdiv b*b∧a.tdiv b*b≤2000000000000000000:=by
  rcases Hs a b hb with ⟨h,e⟩|⟨h,e⟩
  ·have:=Db a hb;have h0:0≤a/b*b:=Int.mul_nonneg (Int.ediv_nonneg h (by omega)) (by omega);rw [e];omega
  ·have:=Db (-a) hb;have h0:0≤-a/b*b:=Int.mul_nonneg (Int.ediv_nonneg (by omega) (by omega)) (by omega);rw [e,Int.neg_mul];omega
 unfold Gd Kj;rw [if_neg (by omega),ckb (by omega),ckb (by omega)]
 by_cases hc:a.tdiv b*b>a
 ·rw [D0 (dT hc),ckb (by omega)];rcases Hs a b hb with ⟨h,e⟩|⟨h,e⟩
  ·have:=Db a hb;rw [e] at hc;omega
  ·have hf:=Db (-a) hb;rw [Lt (f:=a.tdiv b-1) hb]
   ·rw [e,Int.sub_mul,Int.neg_mul];omega
   ·rw [Int.sub_mul];omega
 ·rw [Bp (dF hc),Lt (f:=a.tdiv b) hb]
  ·omega
  ·rcases Hs a b hb with ⟨h,e⟩|⟨h,e⟩
   ·have:=Db a hb;rw [e];omega
   ·have:=Db (-a) hb;rw [e,Int.neg_mul] at hc ⊢;omega
theorem V8 {F:Nat} {a b:Int} (hb:0<b) (ha:-1000000000000000000≤a∧a≤1000000000000000000):Jr F a b=some (-(-a/b)):=by
 have hq:=Pk hb ha;have hm:-2000000000000000000≤a.tdiv b*b∧a.tdiv b*b≤2000000000000000000:=by
  rcases Hs a b hb with ⟨h,e⟩|⟨h,e⟩
  ·have:=Db a hb;have h0:0≤a/b*b:=Int.mul_nonneg (Int.ediv_nonneg h (by omega)) (by omega);rw [e];omega
  ·have:=Db (-a) hb;have h0:0≤-a/b*b:=Int.mul_nonneg (Int.ediv_nonneg (by omega) (by omega)) (by omega);rw [e,Int.neg_mul];omega
 unfold Jr Kj;rw [if_neg (by omega),ckb (by omega),ckb (by omega)]
 by_cases hc:a.tdiv b*b<a
 ·rw [D0 (dT hc),ckb (by omega)];rcases Hs a b hb with ⟨h,e⟩|⟨h,e⟩
  ·have hf:=Db a hb;rw [Lt (f:=-(a.tdiv b+1)) hb]
   ·rw [Int.neg_neg]
   ·rw [e,Int.neg_mul,Int.add_mul];omega
   ·rw [Int.neg_mul,Int.add_mul];omega
  ·have:=Db (-a) hb;rw [e,Int.neg_mul] at hc;omega
 ·rw [Bp (dF hc),Lt (f:=-(a.tdiv b)) hb]
  ·rw [Int.neg_neg]
  ·rw [Int.neg_mul];omega
  ·rcases Hs a b hb with ⟨h,e⟩|⟨h,e⟩
   ·have:=Db a hb;rw [e] at hc ⊢;rw [Int.neg_mul];omega
   ·have:=Db (-a) hb;rw [e,Int.neg_neg];omega
def gLo (L t:Int):Int:=L*(262144-t*t)/(2*(262144+t*t))
def gHi (L t:Int):Int:=-(-(L*(262144-t*t))/(2*(262144+t*t)))
def loZ (L t e:Int):Int:=L*(1024*t)/(2*(262144+t*t))+gLo L t*gLo L t/(2*e)
def hiZ (L t e:Int):Int:=-(-(L*(1024*t))/(2*(262144+t*t))) + -(-(gHi L t*gHi L t)/(2*e))
theorem He {a b A:Int} (hb:0<b) (hA:0≤A) (ha:-(A*b)≤a∧a≤A*b):-A≤a/b∧a/b≤A:=by
 refine ⟨?_,Int.ediv_le_of_le_mul hb ha.2⟩;exact (Int.le_ediv_iff_mul_le hb).2 (by rw [Int.neg_mul];exact ha.1)
theorem gB {L t:Int} (hL:0≤L∧L≤1000000) (ht:-264≤t∧t≤264):(-1000000≤gLo L t∧gLo L t≤1000000)∧(-1000000≤gHi L t∧gHi L t≤1000000)∧(0≤L*(262144-t*t)∧L*(262144-t*t)≤1000000*262144)∧(-(1000000*270336)≤L*(1024*t)∧L*(1024*t)≤1000000*270336):=by
 have h1:=sqB ht;have h2:=Hl (x:=L) (y:=262144-t*t) (A:=1000000) (B:=262144) hL (by omega);have h3:=Qd (x:=L) (y:=1024*t) (A:=1000000) (B:=270336) (by omega) (by omega);refine ⟨He (by omega) (by omega) (by omega),?_,h2,h3⟩;have:=He (a:=-(L*(262144-t*t))) (b:=2*(262144+t*t)) (A:=1000000) (by omega) (by omega) (by omega);unfold gHi;omega
theorem R8 {F:Nat} {s:api_Site} {t g:Int} (hs:1≤s.Step∧s.Step≤2000) (hg:0≤g∧g≤200) (ht:-264≤t∧t≤264):Ef F s t g=some (gLo ((2*g+1)*s.Step) t):=by
 have h1:=sqB ht;have h0:=Hl (x:=2*g+1) (y:=s.Step) (A:=401) (B:=2000) (by omega) (by omega);have h2:=gB (L:=(2*g+1)*s.Step) (t:=t) (by omega) ht;unfold Ef;rw [Hp ht,sbd];unfold slt;dsimp only;rw [ckb (by omega),ckb (by omega),ckb (by omega),ckb (by omega),ckb (by omega),Q1 (by omega) (by omega)];rfl
theorem R9 {F:Nat} {s:api_Site} {t g:Int} (hs:1≤s.Step∧s.Step≤2000) (hg:0≤g∧g≤200) (ht:-264≤t∧t≤264):Eg F s t g=some (gHi ((2*g+1)*s.Step) t):=by
 have h1:=sqB ht;have h0:=Hl (x:=2*g+1) (y:=s.Step) (A:=401) (B:=2000) (by omega) (by omega);have h2:=gB (L:=(2*g+1)*s.Step) (t:=t) (by omega) ht;unfold Eg;rw [Hp ht,sbd];unfold slt;dsimp only;rw [ckb (by omega),ckb (by omega),ckb (by omega),ckb (by omega),ckb (by omega),V8 (by omega) (by omega)];rfl
theorem Sf {F:Nat} {s:api_Site} {t g e:Int} (hs:1≤s.Step∧s.Step≤2000) (hz:0≤s.Z∧s.Z≤20000) (hg:0≤g∧g≤200) (ht:-264≤t∧t≤264) (he:1000000≤e∧e≤100000000):Eu F s t g e=some (s.Z+loZ ((2*g+1)*s.Step) t e):=by
 have h1:=sqB ht;have h0:=Hl (x:=2*g+1) (y:=s.Step) (A:=401) (B:=2000) (by omega) (by omega);obtain ⟨g1,_,_,g4⟩:=gB (L:=(2*g+1)*s.Step) (t:=t) (by omega) ht;have h2:=Qd (x:=gLo ((2*g+1)*s.Step) t) (y:=gLo ((2*g+1)*s.Step) t) (A:=1000000) (B:=1000000) g1 g1;have b1:=He (a:=(2*g+1)*s.Step*(1024*t)) (b:=2*(262144+t*t)) (A:=1000000) (by omega) (by omega) (by omega);have b2:=He (a:=gLo ((2*g+1)*s.Step) t*gLo ((2*g+1)*s.Step) t) (b:=2*e) (A:=1000000) (by omega) (by omega) (by omega);unfold Eu;rw [Hp ht,sbd,R8 hs hg ht,sbd];unfold slt;dsimp only;rw [ckb (by omega),ckb (by omega),ckb (by omega),ckb (by omega),ckb (by omega),ckb (by omega),ckb (by omega),Q1 (by omega) (by omega),sbd,ckb (by omega),Q1 (by omega) (by omega),sbd,ckb (by omega),Int.add_assoc];rfl
theorem Sg {F:Nat} {s:api_Site} {t g e:Int} (hs:1≤s.Step∧s.Step≤2000) (hz:0≤s.Z∧s.Z≤20000) (hg:0≤g∧g≤200) (ht:-264≤t∧t≤264) (he:1000000≤e∧e≤100000000):Ev F s t g e=some (s.Z+hiZ ((2*g+1)*s.Step) t e):=by
 have h1:=sqB ht;have h0:=Hl (x:=2*g+1) (y:=s.Step) (A:=401) (B:=2000) (by omega) (by omega);obtain ⟨_,g1,_,g4⟩:=gB (L:=(2*g+1)*s.Step) (t:=t) (by omega) ht;have h2:=Qd (x:=gHi ((2*g+1)*s.Step) t) (y:=gHi ((2*g+1)*s.Step) t) (A:=1000000) (B:=1000000) g1 g1;have b1:=He (a:=-((2*g+1)*s.Step*(1024*t))) (b:=2*(262144+t*t)) (A:=1000000) (by omega) (by omega) (by omega);have b2:=He (a:=-(gHi ((2*g+1)*s.Step) t*gHi ((2*g+1)*s.Step) t)) (b:=2*e) (A:=1000000) (by omega) (by omega) (by omega);unfold Ev;rw [Hp ht,sbd,R9 hs hg ht,sbd];unfold slt;dsimp only;rw [ckb (by omega),ckb (by omega),ckb (by omega),ckb (by omega),ckb (by omega),ckb (by omega),ckb (by omega),V8 (by omega) (by omega),sbd,ckb (by omega),V8 (by omega) (by omega),sbd,ckb (by omega),Int.add_assoc];rfl
def VE (e:api_Span):Prop:=1000000≤e.Lo∧e.Lo≤e.Hi∧e.Hi≤100000000
def U2 (s:api_Site) (t:Int) (e:api_Span) (g:Int):api_Span:=⟨s.Z+loZ ((2*g+1)*s.Step) (t-s.Width) e.Hi,s.Z+hiZ ((2*g+1)*s.Step) (t+s.Width) e.Lo⟩
theorem Vf {F:Nat} {s:api_Site} {t g:Int} {e:api_Span} (hn:beam_CheckSite F s=some 0) (hs:VS s) (he:VE e) (ht:0≤t∧t≤256) (hg:0≤g∧g<s.Gates):J7 F s t e g=some (U2 s t e g,0):=by
 obtain ⟨e1,e2,e3⟩:=he;have h1:=hs.gates;have h2:=hs.step;have h3:=hs.width;have hv:Dt e=true:=by unfold Dt;rw [dT e1,dT e2,dT e3];rfl
 unfold J7;rw [hn,sbd,D5 ht,hv];simp only [bne_self_eq_false,cond_false,Bool.not_true,Bool.and_true,beq_self_eq_true];rw [gdT rfl,ckb (by omega),D5 (by omega)];simp only [cond_false,Bool.not_true];rw [ckb (by omega),ckb (by omega),Sf (by omega) hs.z (by omega) (by omega) (by omega),sbd,Sg (by omega) hs.z (by omega) (by omega) (by omega),sbd];rfl
end Go.Proofs.Ytkbjbnkkfifbmaa
namespace Go.Proofs.Ytkbjbnkkfifbmaa
open Go Go.RowKit Go.Eng
set_option maxRecDepth 10000
set_option linter.unusedVariables false
set_option linter.unusedSimpArgs false
section
variable {κ ν:Type} [DecidableEq κ]
theorem Mq (B:List (κ×ν)) (k x:κ) (v:ν):lkM (upM B k v) x=if x=k then some v else lkM B x:=by
 induction B with
 | nil=>rfl
 | cons p B ih =>
  unfold upM
  by_cases h:k=p.1
  ·rw [if_pos h];unfold lkM;subst h
   by_cases hx:x=p.1
   ·rw [if_pos hx,if_pos hx]
   ·rw [if_neg hx,if_neg hx,if_neg hx]
  ·rw [if_neg h];unfold lkM
   by_cases hx:x=p.1
   ·rw [if_pos hx,if_neg (by rw [hx];exact fun e=>h e.symm),if_pos hx]
   ·rw [if_neg hx,ih]
    by_cases hk:x=k
    ·rw [if_pos hk,if_pos hk]
    ·rw [if_neg hk,if_neg hk,if_neg hx]
theorem Vz (B:List (κ×ν)) (k:κ) (v:ν):lkM (upM B k v) k=some v:=by rw [Mq,if_pos rfl]
theorem Un {B:List (κ×ν)} {k:κ} {v:ν} (h:lkM B k=some v):(k,v)∈B:=by
 induction B with
 | nil=>cases h
 | cons p B ih =>
  unfold lkM at h
  by_cases hk:k=p.1
  ·rw [if_pos hk] at h;cases h;subst hk;exact .head _
  ·rw [if_neg hk] at h;exact .tail _ (ih h)
theorem Qc {B:List (κ×ν)} {k:κ}:(∃v,lkM B k=some v)↔k∈B.map (·.1):=by
 induction B with
 | nil=>simp [lkM]
 | cons p B ih =>
  unfold lkM
  by_cases hk:k=p.1
  ·simp [hk]
  ·rw [if_neg hk,ih];simp [hk]
theorem Vy {B:List (κ×ν)} {k:κ} (h:k∉B.map (·.1)):lkM B k=none:=by
 cases e:lkM B k with
 | none=>rfl
 | some v=>exact absurd (Qc.1 ⟨v,e⟩) h
theorem Y6 {B:List (κ×ν)} {k:κ} {v:ν} {p:κ×ν} (h:p∈upM B k v):p=(k,v)∨p∈B:=by
 induction B with
 | nil=>simp [upM] at h;exact .inl h
 | cons q B ih =>
  unfold upM at h
  by_cases hk:k=q.1
  ·rw [if_pos hk] at h;rcases List.mem_cons.1 h with h|h
   ·exact .inl h
   ·exact .inr (.tail _ h)
  ·rw [if_neg hk] at h;rcases List.mem_cons.1 h with h|h
   ·exact .inr (h▸.head _)
   ·rcases ih h with h|h
    ·exact .inl h
    ·exact .inr (.tail _ h)
theorem Wo {B:List (κ×ν)} {k x:κ} {v:ν}:x∈(upM B k v).map (·.1)↔x=k∨x∈B.map (·.1):=by
 rw [←Qc,←Qc,Mq]
 by_cases h:x=k
 ·simp [h]
 ·simp [h]
theorem V7 {B:List (κ×ν)} {k:κ} {v:ν} (hn:(B.map (·.1)).Nodup):((upM B k v).map (·.1)).Nodup:=by
 induction B with
 | nil=>simp [upM]
 | cons q B ih =>
  rw [List.map_cons,List.nodup_cons] at hn;unfold upM
  by_cases hk:k=q.1
  ·rw [if_pos hk,List.map_cons,List.nodup_cons];subst hk;exact hn
  ·rw [if_neg hk,List.map_cons,List.nodup_cons];exact ⟨fun h=>(Wo.1 h).elim (fun e=>hk e.symm) hn.1,ih hn.2⟩
end
def tot (B:List (mosaic_Key×List (List api_Span))):Nat:=(B.map fun p=>p.2.length).sum
def kl (B:List (mosaic_Key×List (List api_Span))) (k:mosaic_Key):List (List api_Span):=(lkM B k).getD []
theorem Y5 (B:List (mosaic_Key×List (List api_Span))) (k:mosaic_Key) (l:List (List api_Span)):tot (upM B k l)+(kl B k).length=tot B+l.length:=by
 induction B with
 | nil=>simp [tot,upM,kl,lkM]
 | cons p B ih =>
  unfold upM kl lkM
  by_cases h:k=p.1
  ·rw [if_pos h,if_pos h];simp [tot];omega
  ·rw [if_neg h,if_neg h];have e1:∀C,tot (p::C)=p.2.length+tot C:=fun C=>by simp [tot]
   rw [e1,e1];have:((lkM B k).getD []).length=(kl B k).length:=rfl;omega
theorem X1 (B:List (mosaic_Key×List (List api_Span))) (k:mosaic_Key):(kl B k).length≤tot B:=by
 induction B with
 | nil=>simp [kl,lkM]
 | cons p B ih =>
  have e1:tot (p::B)=p.2.length+tot B:=by simp [tot]
  unfold kl lkM
  by_cases h:k=p.1
  ·rw [if_pos h,e1];simp
  ·rw [if_neg h,e1];have:((lkM B k).getD []).length=(kl B k).length:=rfl;omega
theorem S6 {B:List (mosaic_Key×List (List api_Span))} (h:∀p∈B,p.2≠[]):B.length≤tot B:=by
 induction B with
 | nil=>simp [tot]
 | cons p B ih =>
  have e1:tot (p::B)=p.2.length+tot B:=by simp [tot]
  have:=List.length_pos_iff.2 (h p (.head _));have:=ih fun q hq=>h q (.tail _ hq);rw [e1,List.length_cons];omega
def c3 (a b:Int):Int:=if a<b then -1 else if b<a then 1 else 0
def Vj (x y:api_Span):Int:=if c3 x.Lo y.Lo≠0 then c3 x.Lo y.Lo else c3 x.Hi y.Hi
def L9:List api_Span→List api_Span→Int
 | [],[]=>0
 | [],_::_=>-1
 | _::_,[]=>1
 | x::a,y::b=>if Vj x y≠0 then Vj x y else L9 a b
theorem N0 (a b:Int):A9 a b=c3 a b:=by
 unfold A9 Bx c3;simp only [bne_self_eq_false,cond_false]
 by_cases h1:a<b
 ·rw [dT h1,if_pos h1];rfl
 ·by_cases h2:b<a
  ·rw [dF h1,if_neg h1,if_pos h2,dT h2];rfl
  ·rw [dF h1,if_neg h1,if_neg h2,dF h2];rfl
def orL:List Int→Int
 | []=>0
 | x::l=>if x≠0 then x else orL l
theorem Xv (l:List Int):∀(n i:Nat),i≤l.length→l.length-i<n→l.length<1000000→Ek l n (i:Int)=some (orL (l.drop i)):=by
 intro n
 induction n with
 | zero=>intro i _ h;omega
 | succ n ih =>
  intro i hi hn hl;rw [Ek];unfold Gr
  by_cases hc:i<l.length
  ·rw [D0 (dT (by omega)),F6 i l[i] rfl (List.getElem?_eq_getElem hc),List.drop_eq_getElem_cons hc];unfold orL
   by_cases h:l[i]=0
   ·rw [Bp (by simpa using h),if_neg (by simpa using h),ckb (by omega)];exact ih (i+1) (by omega) (by omega) hl
   ·rw [D0 (by simpa using h),if_pos h]
  ·rw [Bp (dF (by omega)),List.drop_eq_nil_of_le (by omega)];rfl
theorem Y8 {F:Nat} (l:List Int) (h:l.length<F) (h2:l.length<1000000):Hh F l=some (orL l):=by
 have:=Xv l F 0 (by omega) (by omega) h2;rw [List.drop_zero] at this;exact this
theorem Ze (a b:Int):orL [a,b]=if a≠0 then a else b:=by
 show (if a≠0 then a else if b≠0 then b else 0)=_
 split
 ·rfl
 ·split<;>omega
theorem Qu {F:Nat} (hF:100≤F) (x y:api_Span):E2 F x y=some (Vj x y):=by
 unfold E2;rw [N0,N0,Y8 _ (by simp;omega) (by simp),sbd,Ze];rfl
theorem Vi {F:Nat} (hF:100≤F) (a b:List api_Span) (ha:a.length<1000000):∀(n i:Nat),i≤a.length→a.length-i<n →
  Aa F a b n (i:Int)=some (if i≤b.length then L9 (a.drop i) (b.drop i) else if i<a.length then 1 else 0):=by
 intro n
 induction n with
 | zero=>intro i _ h;omega
 | succ n ih =>
  intro i hi hn;rw [Aa];unfold Af
  by_cases hc:i<a.length
  ·rw [D0 (dT (by omega)),F6 i a[i] rfl (List.getElem?_eq_getElem hc)]
   by_cases hb:i<b.length
   ·rw [Bp (dF (by omega)),F6 i b[i] rfl (List.getElem?_eq_getElem hb),Qu hF,sbd,if_pos (by omega),List.drop_eq_getElem_cons hc,List.drop_eq_getElem_cons hb];unfold L9
    by_cases h:Vj a[i] b[i]=0
    ·rw [Bp (by simpa using h),if_neg (by simpa using h),ckb (by omega)];have:=ih (i+1) (by omega) (by omega);rw [if_pos (by omega)] at this;exact this
    ·rw [D0 (by simpa using h),if_pos h]
   ·rw [D0 (dT (by omega))]
    by_cases hb2:i≤b.length
    ·rw [if_pos hb2,List.drop_eq_nil_of_le (show b.length≤i by omega),List.drop_eq_getElem_cons hc];rfl
    ·rw [if_neg hb2,if_pos hc]
  ·rw [Bp (dF (by omega))];unfold Ag;have e:a.drop i=[]:=List.drop_eq_nil_of_le (by omega)
   by_cases hb:a.length<b.length
   ·rw [D0 (dT (by omega)),if_pos (by omega),e,List.drop_eq_getElem_cons (l:=b) (by omega)];rfl
   ·rw [Bp (dF (by omega))]
    by_cases hb2:i≤b.length
    ·rw [if_pos hb2,e,List.drop_eq_nil_of_le (show b.length≤i by omega)];rfl
    ·rw [if_neg hb2,if_neg hc]
theorem N7 {F:Nat} (hF:100≤F) (a b:List api_Span) (ha:a.length<F) (h2:a.length<1000000):E0 F a b=some (L9 a b):=by
 unfold E0 Ak;have:=Vi hF a b h2 F 0 (by omega) (by omega);rw [if_pos (by omega),List.drop_zero,List.drop_zero] at this;have e:Aa F a b F 0=some (L9 a b):=this;rw [e];rfl
theorem Z8 {x:Int} (h:0≤x∧x≤9000000000000000000):IntKind.u64.wrap x=x:=by
 have:=h.1;have:=h.2;simp only [IntKind.wrap,IntKind.signed,IntKind.bits];simp;omega
theorem Sh {F:Nat} (hF:100≤F) (l:List (List api_Span)) (v:List api_Span) (hl:l.length<1000000) (hv:∀x∈l,x.length<F∧x.length<1000000):∀(n i j:Nat),i≤j→j≤l.length→j-i<n →
  ∃(r:Nat) (b:Bool),Ab F l v n (j:Int) (i:Int)=some ((r:Int),b)∧r≤l.length∧i≤r∧r≤j∧(b=true↔∃x,l[r]? = some x∧L9 x v=0)∧(r=i∨∃x,l[r-1]? = some x∧L9 x v<0)∧(r=j∨∃x,l[r]? = some x∧¬L9 x v<0):=by
 intro n
 induction n with
 | zero=>intro i j _ _ h;omega
 | succ n ih =>
  intro i j hij hj hn;rw [Ab];unfold An
  by_cases hc:i<j
  ·have hm:(i+j)/2<l.length:=by omega
   rw [D0 (dT (by omega)),ckb (by omega),Z8 (by omega),Int.fdiv_eq_ediv_of_nonneg _ (by omega),ckb (by omega),F6 ((i+j)/2) l[(i+j)/2] (by omega) (List.getElem?_eq_getElem hm)];obtain ⟨h1,h2⟩:=hv _ (List.getElem_mem hm);rw [N7 hF _ _ h1 h2,sbd]
   by_cases hlt:L9 l[(i+j)/2] v<0
   ·rw [D0 (dT hlt),ckb (by omega),show ((i:Int)+(j:Int))/2+1=(((i+j)/2+1:Nat):Int) by omega];obtain ⟨r,b,e,r1,r2,r3,r4,r5,r6⟩:=ih ((i+j)/2+1) j (by omega) hj (by omega);refine ⟨r,b,e,r1,by omega,r3,r4,.inr ?_,r6⟩;rcases r5 with h|h
    ·exact ⟨_,by rw [h,Nat.add_sub_cancel];exact List.getElem?_eq_getElem hm,hlt⟩
    ·exact h
   ·rw [Bp (dF hlt),show ((i:Int)+(j:Int))/2=(((i+j)/2:Nat):Int) by omega];obtain ⟨r,b,e,r1,r2,r3,r4,r5,r6⟩:=ih i ((i+j)/2) (by omega) (by omega) (by omega);refine ⟨r,b,e,r1,r2,by omega,r4,r5,.inr ?_⟩;rcases r6 with h|h
    ·exact ⟨_,by rw [h];exact List.getElem?_eq_getElem hm,hlt⟩
    ·exact h
  ·rw [Bp (dF (by omega))];unfold Ao;have:i=j:=by omega
   subst this
   by_cases hi:i<l.length
   ·rw [D0 (dT (by omega)),F6 i l[i] rfl (List.getElem?_eq_getElem hi)];obtain ⟨h1,h2⟩:=hv _ (List.getElem_mem hi);rw [N7 hF _ _ h1 h2,sbd];refine ⟨i,_,rfl,hj,Nat.le_refl _,Nat.le_refl _,?_,.inl rfl,.inl rfl⟩;rw [List.getElem?_eq_getElem hi];simp
   ·rw [Bp (dF (by omega))];refine ⟨i,_,rfl,hj,Nat.le_refl _,Nat.le_refl _,?_,.inl rfl,.inl rfl⟩;rw [List.getElem?_eq_none (by omega)];simp
theorem V0 {F:Nat} (hF:100≤F) (N:mosaic_Node) (m:mosaic_Message) (hl:(kl N.kept m.Key).length<F∧(kl N.kept m.Key).length<1000000) (hv:∀x∈kl N.kept m.Key,x.length<F∧x.length<1000000) :
  ∃(r:Nat) (b:Bool),C3 F N m=some ((r:Int),b)∧r≤(kl N.kept m.Key).length∧(b=true↔∃x,(kl N.kept m.Key)[r]? = some x∧L9 x m.Vals=0)∧(r=0∨∃x,(kl N.kept m.Key)[r-1]? = some x∧L9 x m.Vals<0)∧(r=(kl N.kept m.Key).length∨∃x,(kl N.kept m.Key)[r]? = some x∧¬L9 x m.Vals<0):=by
 obtain ⟨r,b,e,r1,_,_,r4,r5,r6⟩:=Sh hF (kl N.kept m.Key) m.Vals hl.2 hv F 0 (kl N.kept m.Key).length (by omega) (Nat.le_refl _) (by omega);refine ⟨r,b,?_,r1,r4,r5,r6⟩;unfold C3 Ap;have e':Ab F ((lkM N.kept m.Key).getD []) m.Vals F (((lkM N.kept m.Key).getD []).length:Int) 0=some ((r:Int),b):=e;rw [e'];rfl
end Go.Proofs.Ytkbjbnkkfifbmaa
namespace Go.Proofs.Ytkbjbnkkfifbmaa
open Go Go.RowKit Go.Eng
set_option maxRecDepth 10000
set_option linter.unusedVariables false
set_option linter.unusedSimpArgs false
def radM (s:mosaic_Spec):List (ByteArray×mosaic_Radar):=s.Radars.foldl (fun B r=>upM B r.Site.Name r) []
def pix (s:mosaic_Spec):Nat:=(s.Grid.Wide*s.Grid.High).toNat
structure GS (F:Nat) (s:mosaic_Spec):Prop where
 g:VG s.Grid
 e:VE s.Earth
 age:1≤s.Age∧s.Age≤86400
 small:pix s≤500
 r:∀n x,lkM (radM s) n=some x→VS x.Site∧beam_CheckSite F x.Site=some 0∧(-3600≤x.Offset.Lo∧x.Offset.Lo≤x.Offset.Hi∧x.Offset.Hi≤3600)∧n≠ByteArray.empty∧x.Site.Name=n
def okK (s:mosaic_Spec) (k:mosaic_Key):Prop:=(∃r,lkM (radM s) k.Name=some r)∧(0≤k.Tilt∧k.Tilt≤256)∧(0≤k.Time∧k.Time≤4294967296)
structure okM (s:mosaic_Spec) (m:mosaic_Message):Prop where
 key:okK s m.Key
 len:m.Vals.length=pix s
 vals:∀v∈m.Vals,0≤v.Lo∧v.Lo≤v.Hi∧v.Hi≤1000000
def K5 (F:Nat) (s:mosaic_Spec) (w:mosaic_where):List api_Span :=
 (((Gc F ((lkM (radM s) w.name).getD default).Site w.tilt s.Grid).getD ([],0)).1).map fun v=>if 0≤v then U2 ((lkM (radM s) w.name).getD default).Site w.tilt s.Earth (v.tmod ((lkM (radM s) w.name).getD default).Site.Gates) else ⟨1,0⟩
def LV (F:Nat) (s:mosaic_Spec) (L:List (mosaic_where×List api_Span)):Prop:=∀w l,lkM L w=some l→l=K5 F s w
structure NI (F:Nat) (s:mosaic_Spec) (N:mosaic_Node):Prop where
 spec:N.spec=s
 radars:N.radars=radM s
 nd:(N.kept.map (·.1)).Nodup
 ok:∀p∈N.kept,okK s p.1∧p.2≠[]∧∀v∈p.2,v.length=pix s
 count:N.count=(tot N.kept:Int)
 looks:LV F s N.looks
def Lx (l:List (List api_Span)) (r:Nat) (v:List api_Span):List (List api_Span):=l.take r++[v]++l.drop r
def L0 (N:mosaic_Node) (m:mosaic_Message) (r:Nat):mosaic_Node:=⟨N.spec,N.radars,N.horizon,upM N.kept m.Key (Lx (kl N.kept m.Key) r m.Vals),N.count+1,N.looks⟩
theorem Pb {l:List (List api_Span)} {r:Nat} {v:List api_Span} (h:r≤l.length):(Lx l r v).length=l.length+1:=by unfold Lx;simp;omega
theorem Tj {l:List (List api_Span)} {r:Nat} {v x:List api_Span}:x∈Lx l r v↔x=v∨x∈l:=by
 unfold Lx;rw [List.mem_append,List.mem_append,List.mem_singleton];constructor
 ·rintro ((h|h)|h)
  ·exact .inr (List.mem_of_mem_take h)
  ·exact .inl h
  ·exact .inr (List.mem_of_mem_drop h)
 ·rintro (h|h)
  ·exact .inl (.inr h)
  ·rw [←List.take_append_drop r l] at h;rcases List.mem_append.1 h with h|h
   ·exact .inl (.inl h)
   ·exact .inr h
theorem NI.kl_ok {F:Nat} {s:mosaic_Spec} {N:mosaic_Node} (h:NI F s N) (k:mosaic_Key):∀v∈kl N.kept k,v.length=pix s:=by
 intro v hv;unfold kl at hv
 cases e:lkM N.kept k with
 | none=>rw [e] at hv;cases hv
 | some l=>rw [e] at hv;exact (h.ok _ (Un e)).2.2 v hv
theorem NI.put {F:Nat} {s:mosaic_Spec} {N:mosaic_Node} {m:mosaic_Message} {r:Nat} (h:NI F s N) (hm:okM s m) (hr:r≤(kl N.kept m.Key).length):NI F s (L0 N m r):=by
 refine ⟨h.spec,h.radars,V7 h.nd,?_,?_,h.looks⟩
 ·intro p hp;rcases Y6 hp with rfl|hp
  ·refine ⟨hm.key,fun e=>?_,fun v hv=>?_⟩
   ·have:=Pb (v:=m.Vals) hr;have e':Lx (kl N.kept m.Key) r m.Vals=[]:=e;rw [e'] at this;simp at this
   ·rcases Tj.1 hv with rfl|hv
    ·exact hm.len
    ·exact h.kl_ok _ v hv
  ·exact h.ok p hp
 ·have h1:=Y5 N.kept m.Key (Lx (kl N.kept m.Key) r m.Vals);rw [Pb hr] at h1;show N.count+1=_;rw [h.count];show _=((tot (upM N.kept m.Key (Lx (kl N.kept m.Key) r m.Vals)):Nat):Int);omega
theorem Ku {n a b:Int} (h:a≤n∧n≤b):Bh n a b=true:=by unfold Bh;rw [dT h.1,dT h.2];rfl
theorem Ng {v:api_Span} {a b:Int} (h:a≤v.Lo∧v.Lo≤v.Hi∧v.Hi≤b):By v a b=true:=by unfold By;rw [dT h.1,dT h.2.1,dT h.2.2];rfl
theorem Tx {m:mosaic_Message} (hl:m.Vals.length<1000000) (hv:∀v∈m.Vals,0≤v.Lo∧v.Lo≤v.Hi∧v.Hi≤1000000):∀(n i:Nat),i≤m.Vals.length→m.Vals.length-i<n→Bw m n (i:Int)=some 0:=by
 intro n
 induction n with
 | zero=>intro i _ h;omega
 | succ n ih =>
  intro i hi hn;rw [Bw];unfold D8
  by_cases hc:i<m.Vals.length
  ·rw [D0 (dT (by omega)),F6 i m.Vals[i] rfl (List.getElem?_eq_getElem hc),Ng (hv _ (List.getElem_mem hc)),Bp (c:=!true) rfl,ckb (by omega)];exact ih (i+1) (by omega) (by omega)
  ·rw [Bp (dF (by omega))];rfl
theorem Wc {F:Nat} {s:mosaic_Spec} (h:GS F s):s.Grid.Wide*s.Grid.High=(pix s:Int)∧1≤pix s:=by
 have h1:=h.g.wide;have h2:=h.g.high;have h3:=Hl (x:=s.Grid.Wide) (y:=s.Grid.High) (A:=64) (B:=64) (by omega) (by omega);have h4:1*1≤s.Grid.Wide*s.Grid.High:=Int.mul_le_mul h1.1 h2.1 (by omega) (by omega);unfold pix;omega
theorem Vd {F:Nat} {s:mosaic_Spec} {N:mosaic_Node} {m:mosaic_Message} (hF:1000≤F) (hs:GS F s) (hN:NI F s N) (hm:okM s m):D3 F N m=some 0:=by
 obtain ⟨r,hr⟩:=hm.key.1;have h1:=Wc hs;have h2:=hs.small;unfold D3;rw [hN.radars,hr,Bp (c:=!(some r).isSome) rfl,Ku hm.key.2.1,Ku hm.key.2.2,Bp (c:=bif !true then true else !true) rfl,hN.spec,ckb (by omega),Bp (by rw [hm.len,h1.1];simp)];exact Tx (by rw [hm.len];omega) hm.vals F 0 (by omega) (by rw [hm.len];omega)
theorem Xx {F:Nat} {s:mosaic_Spec} {N:mosaic_Node} {m:mosaic_Message} {r:Nat} {b:Bool} (hF:1000≤F) (hs:GS F s) (hN:NI F s N) (hm:okM s m) (hc:N.count<1000000) (hp:C3 F N m=some ((r:Int),b)) (hr:r≤(kl N.kept m.Key).length):E4 F N m=some (L0 N m r):=by
 have h2:=hs.small;have h3:=X1 N.kept m.Key;have h4:=hN.count;unfold E4;rw [hp,sbd];unfold Bb B7;rw [show (lkM N.kept m.Key).getD []=kl N.kept m.Key from rfl,Ln (by simp;omega) (by decide),List.nil_append,sbd,Ln (by rw [hm.len];simp;omega) (by decide),List.nil_append,sbd];unfold G8;rw [if_pos ⟨by omega,by omega,rfl,by omega⟩,sbd,ckb (by omega)];rfl
theorem Tz {F:Nat} {s:mosaic_Spec} {N:mosaic_Node} {m:mosaic_Message} (hF:1000≤F) (hs:GS F s) (hN:NI F s N) (hm:okM s m) (hh:N.horizon≤m.Key.Time) (hc:N.count<256) :
  ∃(r:Nat) (b:Bool),B4 F N m=some (!b,0,if b then N else L0 N m r)∧r≤(kl N.kept m.Key).length∧(b=true↔∃x,(kl N.kept m.Key)[r]? = some x∧L9 x m.Vals=0)∧(r=0∨∃x,(kl N.kept m.Key)[r-1]? = some x∧L9 x m.Vals<0)∧(r=(kl N.kept m.Key).length∨∃x,(kl N.kept m.Key)[r]? = some x∧¬L9 x m.Vals<0):=by
 have h2:=hs.small;have h3:=X1 N.kept m.Key;have h4:=hN.count;obtain ⟨r,b,e,r1,r2,r3,r4⟩:=V0 (F:=F) (by omega) N m (by omega) (fun x hx=>by rw [hN.kl_ok _ x hx];omega);refine ⟨r,b,?_,r1,r2,r3,r4⟩;unfold B4 C9;rw [sbd,cond_false,Vd hF hs hN hm,sbd,Bp (c:=(0:Int) != 0) rfl,Bp (dF (by omega)),e,sbd]
 cases b with
 | true=>rfl
 | false =>
  rw [Bp (c:=((r:Int),false).2) rfl,Bp (dF (by omega)),Xx hF hs hN hm (by omega) e r1,sbd];rfl
end Go.Proofs.Ytkbjbnkkfifbmaa
namespace Go.Proofs.Ytkbjbnkkfifbmaa
open Go Go.RowKit Go.Eng
set_option maxRecDepth 10000
set_option linter.unusedVariables false
set_option linter.unusedSimpArgs false
def ksN (N:mosaic_Node):List mosaic_Key:=D4 (N.kept.map (·.1))
theorem Jf (N:mosaic_Node):(ksN N).length=N.kept.length∧(ksN N).Perm (N.kept.map (·.1))∧(ksN N).Pairwise (fun x y=>¬KLt y x):=by
 obtain ⟨h1,h2,h3⟩:=J4 E7 Nh (N.kept.map (·.1));refine ⟨by unfold ksN D4;rw [h1];simp,h2,h3.imp ?_⟩;intro x y h hlt;rw [(Ly y x).2 hlt] at h;cases h
theorem Xf {N:mosaic_Node} {k:mosaic_Key}:k∈ksN N↔∃l,lkM N.kept k=some l:=by
 rw [(Jf N).2.1.mem_iff,Qc]
theorem NI.small {F:Nat} {s:mosaic_Spec} {N:mosaic_Node} (h:NI F s N):(ksN N).length≤tot N.kept:=by
 rw [(Jf N).1];exact S6 fun p hp=>(h.ok p hp).2.1
theorem NI.key {F:Nat} {s:mosaic_Spec} {N:mosaic_Node} (h:NI F s N) {k:mosaic_Key} (hk:k∈ksN N):okK s k∧kl N.kept k≠[]:=by
 obtain ⟨l,hl⟩:=Xf.1 hk;have:=h.ok _ (Un hl);refine ⟨this.1,?_⟩;unfold kl;rw [hl];exact this.2.1
theorem Sp {F:Nat} {N:mosaic_Node} (h:N.kept.length≤1000000):Fw F N=some (ksN N):=by unfold Fw;rw [if_pos h];rfl
end Go.Proofs.Ytkbjbnkkfifbmaa
namespace Go.Proofs.Ytkbjbnkkfifbmaa
open Go Go.RowKit Go.Eng
set_option maxRecDepth 10000
set_option linter.unusedVariables false
set_option linter.unusedSimpArgs false
theorem Nf {α:Type} {x d:α}:(some x).getD d=x:=rfl
def Mm (s:mosaic_Spec) (t:Int) (r:mosaic_Radar) (v:Int):api_Span:=if 0≤v then U2 r.Site t s.Earth (v.tmod r.Site.Gates) else ⟨1,0⟩
theorem Uo {F:Nat} {s:mosaic_Spec} {N:mosaic_Node} {k:mosaic_Key} {r:mosaic_Radar} {V:List Int} (hs:GS F s) (hsp:N.spec=s) (hr:N.radars=radM s) (hk:okK s k) (hrk:lkM (radM s) k.Name=some r) (hV:V.length≤1000) :
  ∀(n i:Nat) (acc:List api_Span),i≤V.length→V.length-i<n→acc.length≤i→Bo F N k (V,0) n acc (i:Int)=some (acc++(V.drop i).map (Mm s k.Tilt r),upM N.looks ⟨k.Name,k.Tilt⟩ (acc++(V.drop i).map (Mm s k.Tilt r))):=by
 obtain ⟨v1,v2,_,_,_⟩:=hs.r _ _ hrk;have hg:=v1.gates;intro n
 induction n with
 | zero=>intro i acc _ h;omega
 | succ n ih =>
  intro i acc hi hn ha;rw [Bo];unfold Dq;rw [show (V,(0:Int)).1=V from rfl]
  by_cases hc:i<V.length
  ·have fin:∀b:api_Span,b=Mm s k.Tilt r V[i]→C8 acc i (Bo F N k (V,0) n) b.Lo b.Hi=some (acc++(V.drop i).map (Mm s k.Tilt r),upM N.looks ⟨k.Name,k.Tilt⟩ (acc++(V.drop i).map (Mm s k.Tilt r))):=by
    intro b hb;unfold C8;rw [Ln (by simp;omega) (by decide),ckb (by omega)];have:=ih (i+1) (acc++[b]) (by omega) (by omega) (by simp;omega);rw [List.append_assoc,List.singleton_append,hb,←List.map_cons,←List.drop_eq_getElem_cons hc] at this;rw [hb];exact this
   rw [D0 (dT (by omega)),F6 i V[i] rfl (List.getElem?_eq_getElem hc),hr,hrk,Nf]
   by_cases hv:V[i]≥0
   ·have e1:Da V[i] r.Site.Gates=some (V[i].tmod r.Site.Gates):=by unfold Da;rw [if_neg (by omega)]
    have h0:=Int.tmod_nonneg r.Site.Gates hv;have h1:=Int.tmod_lt_of_pos V[i] (show 0<r.Site.Gates by omega);rw [D0 (dT hv),e1,sbd,hsp,show (api_Site.mk r.Site.Name r.Site.X r.Site.Y r.Site.Z r.Site.Rose r.Site.Gates r.Site.Step r.Site.Width)=r.Site from rfl,Vf v2 v1 hs.e hk.2.1 ⟨h0,h1⟩,sbd];exact fin _ (by unfold Mm;rw [if_pos hv])
   ·rw [Bp (dF hv)];exact fin ⟨1,0⟩ (by unfold Mm;rw [if_neg (by omega)])
  ·rw [Bp (dF (by omega)),List.drop_eq_nil_of_le (by omega)];unfold Dr;rw [List.map_nil,List.append_nil]
theorem P6 {F:Nat} {s:mosaic_Spec} {k:mosaic_Key} {r:mosaic_Radar} (hF:200≤F) (hs:GS F s) (hk:okK s k) (hrk:lkM (radM s) k.Name=some r) :
  ∃V,Gc F r.Site k.Tilt s.Grid=some (V,0)∧V.length=pix s∧K5 F s ⟨k.Name,k.Tilt⟩=V.map (Mm s k.Tilt r):=by
 obtain ⟨v1,v2,_,_,_⟩:=hs.r _ _ hrk;obtain ⟨V,e,hl⟩:=Vh (F:=F) hF v2 v1 hs.g hk.2.1;refine ⟨V,e,hl,?_⟩;unfold K5;dsimp only;rw [hrk,Nf,e,Nf];rfl
theorem Ro {F:Nat} {s:mosaic_Spec} {k:mosaic_Key} (hF:200≤F) (hs:GS F s) (hk:okK s k):(K5 F s ⟨k.Name,k.Tilt⟩).length=pix s:=by
 obtain ⟨r,hr⟩:=hk.1;obtain ⟨V,_,hl,e⟩:=P6 hF hs hk hr;rw [e,List.length_map,hl]
theorem W0 {F:Nat} {s:mosaic_Spec} {N:mosaic_Node} {k:mosaic_Key} (hF:1000≤F) (hs:GS F s) (hsp:N.spec=s) (hr:N.radars=radM s) (hl:LV F s N.looks) (hk:okK s k) :
  ∃L,Dp F N k=some (K5 F s ⟨k.Name,k.Tilt⟩,L)∧LV F s L:=by
 obtain ⟨r,hrk⟩:=hk.1;obtain ⟨V,e,hV,eb⟩:=P6 (F:=F) (by omega) hs hk hrk;have h2:=hs.small;unfold Dp
 cases hq:lkM N.looks (mosaic_where.mk k.Name k.Tilt) with
 | some l =>
  rw [D0 (c:=(some l).isSome) rfl,Nf,hl _ _ hq];exact ⟨_,rfl,hl⟩
 | none =>
  rw [Bp (c:=(none:Option (List api_Span)).isSome) rfl,hr,hrk,Nf,hsp,show (api_Site.mk r.Site.Name r.Site.X r.Site.Y r.Site.Z r.Site.Rose r.Site.Gates r.Site.Step r.Site.Width)=r.Site from rfl,e,sbd];have:=Uo (F:=F) hs hsp hr hk hrk (V:=V) (by omega) F 0 [] (by omega) (by omega) (by simp);rw [List.drop_zero,List.nil_append,←eb] at this;refine ⟨_,this,?_⟩;intro w l hw;rw [Mq] at hw
  by_cases h:w=mosaic_where.mk k.Name k.Tilt
  ·rw [if_pos h] at hw;cases hw;rw [h]
  ·rw [if_neg h] at hw;exact hl _ _ hw
def Wa (s:mosaic_Spec) (k:mosaic_Key):api_Span:=((lkM (radM s) k.Name).getD default).Offset
def H4 (s:mosaic_Spec) (N:mosaic_Node) (t:Int) (k:mosaic_Key):Bool:=decide ((kl N.kept k).length=1∧k.Time+(Wa s k).Hi≤t∧t-k.Time-(Wa s k).Lo≤s.Age)
def whK (k:mosaic_Key):mosaic_where:=⟨k.Name,k.Tilt⟩
def Lb (s:mosaic_Spec) (N:mosaic_Node) (t:Int) (B:List (mosaic_where×mosaic_Key)) (L:List mosaic_Key):List (mosaic_where×mosaic_Key):=L.foldl (fun B k=>if H4 s N t k then upM B (whK k) k else B) B
def Pc (B:List (mosaic_where×mosaic_Key)) (k:mosaic_Key):Bool:=decide (lkM B (whK k)=some k)
def Cg (F:Nat) (s:mosaic_Spec) (N:mosaic_Node) (k:mosaic_Key):mosaic_used:=⟨k,((kl N.kept k)[0]?).getD [],K5 F s (whK k)⟩
theorem baE (a b:ByteArray):(a==b)=true↔a=b:=by
 obtain ⟨a⟩:=a;obtain ⟨b⟩:=b;constructor
 ·intro h;have:(a==b)=true:=h;rw [beq_iff_eq] at this;rw [this]
 ·intro h
  cases h
  exact (beq_self_eq_true a:_)
theorem Vv (x k:mosaic_Key):((x.Name==k.Name)&&(((x.Tilt:Int)==k.Tilt)&&(((x.Time:Int)==k.Time)&&true)))=decide (x=k):=by
 obtain ⟨n,t,u⟩:=x;obtain ⟨n',t',u'⟩:=k;dsimp only
 by_cases h:n=n'∧t=t'∧u=u'
 ·obtain ⟨rfl,rfl,rfl⟩:=h;rw [(baE n n).2 rfl];simp
 ·rw [dF (by simpa using h)]
  cases h1:(n==n') with
  | false=>rfl
  | true =>
   cases h2:(t==t') with
   | false=>rfl
   | true =>
    cases h3:(u==u') with
    | false=>rfl
    | true=>exact absurd ⟨(baE _ _).1 h1,by simpa using h2,by simpa using h3⟩ h
theorem Va {F:Nat} {s:mosaic_Spec} {N:mosaic_Node} {B:List (mosaic_where×mosaic_Key)} {L:List mosaic_Key} (hF:1000≤F) (hs:GS F s) (h:NI F s N) (hL:∀k∈L,okK s k∧kl N.kept k≠[]) (hl:L.length≤10000) :
  ∀(n i:Nat) (lk:List (mosaic_where×List api_Span)) (acc:List mosaic_used),i≤L.length→L.length-i<n→acc.length≤i→LV F s lk →
   ∃lk',C1 F N B L n lk (i:Int) acc=some (acc++((L.drop i).filter (Pc B)).map (Cg F s N),lk')∧LV F s lk':=by
 intro n
 induction n with
 | zero=>intro i lk acc _ h;omega
 | succ n ih =>
  intro i lk acc hi hn ha hlk;rw [C1];unfold Ea
  by_cases hc:i<L.length
  ·obtain ⟨hk,hne⟩:=hL _ (List.getElem_mem hc);rw [D0 (dT (by omega)),F6 i L[i] rfl (List.getElem?_eq_getElem hc),List.drop_eq_getElem_cons hc,Vv];have hx:decide ((lkM B (mosaic_where.mk L[i].Name L[i].Tilt)).getD (mosaic_Key.mk ByteArray.empty 0 0)=L[i])=Pc B L[i]:=by
    unfold Pc whK
    cases e:lkM B (mosaic_where.mk L[i].Name L[i].Tilt) with
    | some x=>rw [Nf];congr 1;simp
    | none =>
     rw [dF,dF]
     ·simp
     ·intro e0;obtain ⟨r,hr⟩:=hk.1;have:(ByteArray.empty)=L[i].Name:=congrArg (·.Name) e0;exact (hs.r _ _ hr).2.2.2.1 this.symm
   rw [hx]
   cases hb:Pc B L[i] with
   | true =>
    obtain ⟨lk',e,hlk'⟩:=W0 (N:=mosaic_Node.mk N.spec N.radars N.horizon N.kept N.count lk) hF hs h.spec h.radars hlk hk;obtain ⟨v,vs,hv⟩:=List.exists_cons_of_ne_nil hne;rw [cond_true,show (lkM N.kept L[i]).getD []=kl N.kept L[i] from rfl,F6 (l:=kl N.kept L[i]) (i:=0) 0 v rfl (by rw [hv];rfl),e,sbd,Ln (by simp;omega) (by decide)];unfold Cn;rw [ckb (by omega),List.filter_cons_of_pos (by exact hb)];obtain ⟨lk2,e2,h2⟩:=ih (i+1) lk' (acc++[Cg F s N L[i]]) (by omega) (by omega) (by simp;omega) hlk';refine ⟨lk2,?_,h2⟩;rw [List.append_assoc,List.singleton_append] at e2;have eu:mosaic_used.mk L[i] v (K5 F s ⟨L[i].Name,L[i].Tilt⟩)=Cg F s N L[i]:=by unfold Cg whK;rw [hv];rfl
    show C1 F N B L n lk' _ (acc++[mosaic_used.mk L[i] v (K5 F s ⟨L[i].Name,L[i].Tilt⟩)])=_;rw [eu];exact e2
   | false =>
    rw [cond_false];unfold Cn;rw [ckb (by omega),List.filter_cons_of_neg (by rw [hb];decide)];exact ih (i+1) lk acc (by omega) (by omega) (by omega) hlk
  ·rw [Bp (dF (by omega)),List.drop_eq_nil_of_le (by omega)];exact ⟨lk,by simp [Ec],hlk⟩
theorem W8 {F:Nat} {s:mosaic_Spec} {N:mosaic_Node} {t:Int} {L:List mosaic_Key} (hs:GS F s) (h:NI F s N) (ht:0≤t∧t≤1000000000000) (hL:∀k∈L,okK s k) (hl:L.length≤10000) :
  ∀(n i:Nat) (B:List (mosaic_where×mosaic_Key)),i≤L.length→L.length-i<n→C2 F N t L n B (i:Int)=Cm F N (Lb s N t B (L.drop i)):=by
 intro n
 induction n with
 | zero=>intro i B _ h;omega
 | succ n ih =>
  intro i B hi hn;rw [C2];unfold Eb
  by_cases hc:i<L.length
  ·have hk:=hL _ (List.getElem_mem hc);obtain ⟨r,hr⟩:=hk.1;obtain ⟨_,_,ho,_,_⟩:=hs.r _ _ hr;have htm:=hk.2.2;have hag:=hs.age;have eo:Wa s L[i]=r.Offset:=by unfold Wa;rw [hr];rfl
   rw [D0 (dT (by omega)),F6 i L[i] rfl (List.getElem?_eq_getElem hc),List.drop_eq_getElem_cons hc,h.radars,hr,Nf,show (lkM N.kept L[i]).getD []=kl N.kept L[i] from rfl,h.spec];have fin:∀C,Co (i:Int) (C2 F N t L n) C=Cm F N (Lb s N t C (L.drop (i+1))):=by
    intro C;unfold Co;rw [ckb (by omega)];exact ih (i+1) C (by omega) (by omega)
   have step:Lb s N t B (L[i]::L.drop (i+1))=Lb s N t (if H4 s N t L[i] then upM B (whK L[i]) L[i] else B) (L.drop (i+1)):=rfl;rw [step]
   by_cases h1:(kl N.kept L[i]).length=1
   ·rw [h1,show (((1:Nat):Int)==1)=true from rfl,gdT (g:=(true==true&&true)) rfl,ckb (by omega)]
    by_cases h2:L[i].Time+r.Offset.Hi≤t
    ·rw [dT h2,gdT (g:=((bif true then true else false)==true&&true)) rfl,ckb (by omega),gdT (g:=((bif true then true else false)==true&&true)) rfl,ckb (by omega)]
     by_cases h3:t-L[i].Time-r.Offset.Lo≤s.Age
     ·rw [dT h3,D0 (c:=bif (bif true then true else false) then true else false) rfl,fin];have hf:H4 s N t L[i]=true:=by unfold H4;rw [eo];exact dT ⟨h1,h2,h3⟩
      rw [hf,if_pos rfl];rfl
     ·rw [dF h3,Bp (c:=bif (bif true then true else false) then false else false) rfl,fin];have hf:H4 s N t L[i]=false:=by unfold H4;rw [eo];exact dF fun x=>h3 x.2.2
      rw [hf];rfl
    ·rw [dF h2,gdF (g:=((bif true then false else false)==true&&true)) rfl,sbd,gdF (g:=((bif true then false else false)==true&&true)) rfl,sbd,Bp (c:=bif (bif true then false else false) then _ else false) rfl,fin];have hf:H4 s N t L[i]=false:=by unfold H4;rw [eo];exact dF fun x=>h2 x.2.1
     rw [hf];rfl
   ·have e1:((((kl N.kept L[i]).length:Nat):Int)==1)=false:=by
     have:¬(((kl N.kept L[i]).length:Nat):Int)=1:=by omega
     simpa using this
    rw [e1,gdF (g:=(false==true&&true)) rfl,sbd,gdF (g:=((bif false then _ else false)==true&&true)) rfl,sbd,gdF (g:=((bif false then _ else false)==true&&true)) rfl,sbd,Bp (c:=bif (bif false then _ else false) then _ else false) rfl,fin];have hf:H4 s N t L[i]=false:=by unfold H4;exact dF fun x=>h1 x.1
    rw [hf];rfl
  ·rw [Bp (dF (by omega)),List.drop_eq_nil_of_le (by omega)];rfl
def Ft (s:mosaic_Spec) (N:mosaic_Node) (t:Int):List mosaic_Key:=(ksN N).filter (Pc (Lb s N t [] (ksN N)))
theorem Yb {F:Nat} {s:mosaic_Spec} {N:mosaic_Node} {t:Int} (hF:1000≤F) (hs:GS F s) (h:NI F s N) (hn:tot N.kept<900) (ht:0≤t∧t≤1000000000000) :
  ∃L,De F N t=some ((Ft s N t).map (Cg F s N),L)∧LV F s L:=by
 have h1:=h.small;have h2:=(Jf N).1;unfold De;rw [Sp (by omega),sbd];have e:=W8 (F:=F) (N:=N) (t:=t) (L:=ksN N) hs h ht (fun k hk=>(h.key hk).1) (by omega) F 0 [] (by omega) (by omega);rw [List.drop_zero] at e;obtain ⟨L,e2,hL⟩:=Va (B:=Lb s N t [] (ksN N)) hF hs h (L:=ksN N) (fun k hk=>h.key hk) (by omega) F 0 N.looks [] (by omega) (by omega) (by simp) h.looks;rw [List.drop_zero,List.nil_append] at e2;refine ⟨L,?_,hL⟩;refine e.trans ?_;unfold Cm;rw [Sp (by omega),sbd];exact e2
theorem W7 {F:Nat} {s:mosaic_Spec} {N:mosaic_Node} {t:Int}:∀(L:List mosaic_Key) (B:List (mosaic_where×mosaic_Key)) (w:mosaic_where),L.Pairwise (fun x y=>¬KLt y x) →
  (∀k,lkM B w=some k→whK k=w∧∀k'∈L,¬KLt k' k) →
  (∀k,lkM (Lb s N t B L) w=some k→whK k=w∧(lkM B w=some k∨(k∈L∧H4 s N t k=true))∧∀k'∈L,H4 s N t k'=true→whK k'=w→¬KLt k k') ∧
  (lkM (Lb s N t B L) w=none→lkM B w=none∧∀k'∈L,H4 s N t k'=true→whK k'≠w):=by
 intro L
 induction L with
 | nil=>intro B w _ hB;exact ⟨fun k hk=>⟨(hB k hk).1,.inl hk,fun _ h=>by cases h⟩,fun hk=>⟨hk,fun _ h=>by cases h⟩⟩
 | cons x L ih =>
  intro B w hp hB;obtain ⟨hx,hp⟩:=List.pairwise_cons.1 hp;have e:Lb s N t B (x::L)=Lb s N t (if H4 s N t x then upM B (whK x) x else B) L:=rfl;rw [e]
  by_cases hf:H4 s N t x=true∧whK x=w
  ·obtain ⟨hf,hw⟩:=hf;have hlk:lkM (upM B (whK x) x) w=some x:=by rw [←hw,Vz]
   rw [hf,if_pos rfl];obtain ⟨i1,i2⟩:=ih (upM B (whK x) x) w hp (fun k hk=>by rw [hlk] at hk;cases hk;exact ⟨hw,hx⟩)
   constructor
   ·intro k hk;obtain ⟨a1,a2,a3⟩:=i1 k hk;refine ⟨a1,?_,?_⟩
    ·rcases a2 with a2|a2
     ·rw [hlk] at a2;cases a2;exact .inr ⟨.head _,hf⟩
     ·exact .inr ⟨.tail _ a2.1,a2.2⟩
    ·intro k' hk' hfk hwk;rcases List.mem_cons.1 hk' with rfl|hk'
     ·rcases a2 with a2|a2
      ·rw [hlk] at a2;cases a2;exact Qa _
      ·exact hx _ a2.1
     ·exact a3 k' hk' hfk hwk
   ·intro hk;have:=(i2 hk).1;rw [hlk] at this;cases this
  ·have hlk:lkM (if H4 s N t x then upM B (whK x) x else B) w=lkM B w:=by
    by_cases hfx:H4 s N t x=true
    ·rw [hfx,if_pos rfl,Mq,if_neg (fun e=>hf ⟨hfx,e.symm⟩)]
    ·rw [if_neg hfx]
   obtain ⟨i1,i2⟩:=ih (if H4 s N t x then upM B (whK x) x else B) w hp (fun k hk=>by rw [hlk] at hk;exact ⟨(hB k hk).1,fun k' hk'=>(hB k hk).2 k' (.tail _ hk')⟩);constructor
   ·intro k hk;obtain ⟨a1,a2,a3⟩:=i1 k hk;refine ⟨a1,?_,?_⟩
    ·rcases a2 with a2|a2
     ·rw [hlk] at a2;exact .inl a2
     ·exact .inr ⟨.tail _ a2.1,a2.2⟩
    ·intro k' hk' hfk hwk;rcases List.mem_cons.1 hk' with rfl|hk'
     ·exact absurd ⟨hfk,hwk⟩ hf
     ·exact a3 k' hk' hfk hwk
   ·intro hk;obtain ⟨b1,b2⟩:=i2 hk;rw [hlk] at b1;refine ⟨b1,fun k' hk' hfk hwk=>?_⟩;rcases List.mem_cons.1 hk' with rfl|hk'
    ·exact hf ⟨hfk,hwk⟩
    ·exact b2 k' hk' hfk hwk
theorem R2 {x y:mosaic_Key} (hw:whK x=whK y):KLt x y↔x.Time<y.Time:=by
 obtain ⟨n,t,u⟩:=x;obtain ⟨n',t',u'⟩:=y;simp only [whK,mosaic_where.mk.injEq] at hw;obtain ⟨rfl,rfl⟩:=hw;unfold KLt;constructor
 ·rintro (h|⟨_,h|⟨_,h⟩⟩)
  ·exact h
  ·exact absurd h (Uq _)
  ·exact absurd h (Int.lt_irrefl _)
 ·exact .inl
theorem T3 {s:mosaic_Spec} {N:mosaic_Node} {t:Int} {k:mosaic_Key}:k∈Ft s N t↔k∈ksN N∧H4 s N t k=true∧∀k'∈ksN N,H4 s N t k'=true→whK k'=whK k→k'.Time≤k.Time:=by
 have hn:=W7 (F:=0) (s:=s) (N:=N) (t:=t) (ksN N) [] (whK k) (Jf N).2.2 (fun k hk=>by cases hk)
 unfold Ft;rw [List.mem_filter];unfold Pc;rw [decide_eq_true_iff];constructor
 ·rintro ⟨h1,h2⟩;obtain ⟨_,a2,a3⟩:=hn.1 k h2;refine ⟨h1,?_,fun k' hk' hf hw=>?_⟩
  ·rcases a2 with a2|a2
   ·cases a2
   ·exact a2.2
  ·have:=a3 k' hk' hf hw;rw [R2 hw.symm] at this;omega
 ·rintro ⟨h1,h2,h3⟩;refine ⟨h1,?_⟩
  cases e:lkM (Lb s N t [] (ksN N)) (whK k) with
  | none=>exact absurd rfl ((hn.2 e).2 k h1 h2)
  | some x =>
   obtain ⟨a1,a2,a3⟩:=hn.1 x e;rcases a2 with a2|a2
   ·cases a2
   ·have b1:=h3 x a2.1 a2.2 a1;have b2:=a3 k h1 h2 rfl;rw [R2 a1] at b2
    congr 1
    obtain ⟨n,t,u⟩:=x;obtain ⟨n',t',u'⟩:=k;simp only [whK,mosaic_where.mk.injEq] at a1;obtain ⟨rfl,rfl⟩:=a1;have:u=u':=by
     simp only at b1 b2;omega
    rw [this]
end Go.Proofs.Ytkbjbnkkfifbmaa
namespace Go.Proofs.Ytkbjbnkkfifbmaa
open Go Go.RowKit Go.Eng
set_option maxRecDepth 10000
set_option linter.unusedVariables false
set_option linter.unusedSimpArgs false
abbrev YU:=List mosaic_used×List (mosaic_where×List api_Span)
theorem U1 {F:Nat} {N:mosaic_Node} {t:Int} (h0:0≤t∧t≤4294967296) (hh:N.horizon≤t):Cl F N t=some 0:=by
 unfold Cl C9;rw [sbd,cond_false,Ku h0,Bp (c:=!true) rfl,Bp (dF (by omega))]
theorem Vb {F:Nat} {s:mosaic_Spec} {N:mosaic_Node} {t:Int} (hF:1000≤F) (hs:GS F s) (h:NI F s N):∀u∈(Ft s N t).map (Cg F s N),u.bands.length=pix s∧u.vals.length=pix s:=by
 intro u hu;obtain ⟨k,hk,rfl⟩:=List.mem_map.1 hu;have hk2:=(T3.1 hk).1;obtain ⟨h1,h2⟩:=h.key hk2;refine ⟨Ro (by omega) hs h1,?_⟩;obtain ⟨v,vs,hv⟩:=List.exists_cons_of_ne_nil h2;show (((kl N.kept k)[0]?).getD []).length=_;rw [hv];exact h.kl_ok k v (by rw [hv];exact .head _)
end Go.Proofs.Ytkbjbnkkfifbmaa
namespace Go.Proofs.Ytkbjbnkkfifbmaa
open Go Go.RowKit Go.Eng
set_option maxRecDepth 10000
set_option linter.unusedVariables false
set_option linter.unusedSimpArgs false
theorem Ez {β:Type} {x y:Int} {f:Int→Option β} (h:y≠0):(Da x y).bind f=f (x.tmod y):=by unfold Da;rw [if_neg h];rfl
structure RG (F:Nat) (s:mosaic_Spec):Prop where
 g:VG s.Grid
 e:VE s.Earth
 age:1≤s.Age∧s.Age≤86400
 small:pix s≤500
 len:1≤s.Radars.length∧s.Radars.length≤32
 nd:(s.Radars.map (·.Site.Name)).Nodup
 ok:∀r∈s.Radars,VS r.Site∧beam_CheckSite F r.Site=some 0∧(-3600≤r.Offset.Lo∧r.Offset.Lo≤r.Offset.Hi∧r.Offset.Hi≤3600)∧r.Site.Name≠ByteArray.empty
def Sx (B:List (ByteArray×mosaic_Radar)) (l:List mosaic_Radar):List (ByteArray×mosaic_Radar):=l.foldl (fun B r=>upM B r.Site.Name r) B
theorem Uf:∀(l:List mosaic_Radar) (B:List (ByteArray×mosaic_Radar)) (n:ByteArray),(l.map (·.Site.Name)).Nodup→lkM (Sx B l) n=match l.find? (fun r=>r.Site.Name=n) with|some r=>some r|none=>lkM B n:=by
 intro l
 induction l with
 | nil=>intro B n _;rfl
 | cons x l ih =>
  intro B n hn;rw [List.map_cons,List.nodup_cons] at hn;have e:Sx B (x::l)=Sx (upM B x.Site.Name x) l:=rfl;rw [e,ih _ _ hn.2,List.find?_cons]
  by_cases h:x.Site.Name=n
  ·have hnone:l.find? (fun r=>r.Site.Name=n)=none:=by
    rw [List.find?_eq_none];intro r hr hrn;have hrn:r.Site.Name=n:=by simpa using hrn
    exact hn.1 (by rw [h,←hrn];exact List.mem_map_of_mem (f:=(·.Site.Name)) hr)
   rw [hnone,Mq,if_pos h.symm];simp [h]
  ·rw [Mq,if_neg (fun e=>h e.symm)];simp [h]
theorem Pl {F:Nat} {s:mosaic_Spec} (h:RG F s) (n:ByteArray):lkM (radM s) n=s.Radars.find? (fun r=>r.Site.Name=n):=by
 have:=Uf s.Radars [] n h.nd;unfold radM;refine this.trans ?_
 cases s.Radars.find? (fun r=>r.Site.Name=n)<;>rfl
theorem RG.gs {F:Nat} {s:mosaic_Spec} (h:RG F s):GS F s:=by
 refine ⟨h.g,h.e,h.age,h.small,fun n x hx=>?_⟩;rw [Pl h] at hx;have h1:=List.mem_of_find?_eq_some hx;have h2:x.Site.Name=n:=by simpa using List.find?_some hx
 obtain ⟨a,b,c,d⟩:=h.ok x h1;exact ⟨a,b,c,h2▸d,h2⟩
theorem RG.lk {F:Nat} {s:mosaic_Spec} (h:RG F s) {r:mosaic_Radar} (hr:r∈s.Radars):lkM (radM s) r.Site.Name=some r:=by
 rw [Pl h]
 cases e:s.Radars.find? (fun x=>x.Site.Name=r.Site.Name) with
 | none =>
  rw [List.find?_eq_none] at e;exact absurd (by simp) (e r hr)
 | some x =>
  have h1:=List.mem_of_find?_eq_some e;have h2:x.Site.Name=r.Site.Name:=by simpa using List.find?_some e
  obtain ⟨i,hi,rfl⟩:=List.mem_iff_getElem.1 h1;obtain ⟨j,hj,rfl⟩:=List.mem_iff_getElem.1 hr;have:=List.pairwise_iff_getElem.1 h.nd;rcases Nat.lt_trichotomy i j with hij|hij|hij
  ·exact absurd (by rw [List.getElem_map,List.getElem_map];exact h2) (this i j (by simpa using hi) (by simpa using hj) hij)
  ·subst hij;rfl
  ·exact absurd (by rw [List.getElem_map,List.getElem_map];exact h2.symm) (this j i (by simpa using hj) (by simpa using hi) hij)
def K9 (s:mosaic_Spec):mosaic_Node:=⟨s,radM s,0,[],0,[]⟩
theorem Ma {F:Nat} {s:mosaic_Spec}:NI F s (K9 s):=by
 refine ⟨rfl,rfl,.nil,?_,rfl,?_⟩
 ·intro p hp;cases hp
 ·intro w l h;cases h
theorem T9 {F:Nat} {s:mosaic_Spec} (h:RG F s):∀(n i:Nat) (B:List (ByteArray×Bool)),i≤s.Radars.length→s.Radars.length-i<n→(∀m b,lkM B m=some b→m∈(s.Radars.take i).map (·.Site.Name))→Dd F s n B (i:Int)=some 0:=by
 have hl:=h.len;intro n
 induction n with
 | zero=>intro i B _ h;omega
 | succ n ih =>
  intro i B hi hn hB;rw [Dd];unfold Fl
  by_cases hc:i<s.Radars.length
  ·obtain ⟨a,b,c,d⟩:=h.ok _ (List.getElem_mem hc);have hnew:lkM B s.Radars[i].Site.Name=none:=by
    cases e:lkM B s.Radars[i].Site.Name with
    | none=>rfl
    | some b =>
     have:=hB _ _ e;rw [List.map_take] at this;obtain ⟨j,hj,hje⟩:=List.mem_take_iff_getElem.1 this;have hp:=List.pairwise_iff_getElem.1 h.nd j i (by simp at hj ⊢;omega) (by simpa using hc) (by omega);exact absurd (by rw [hje];simp) hp
   rw [D0 (dT (by omega)),F6 i s.Radars[i] rfl (List.getElem?_eq_getElem hc),b,sbd,Bp (c:=(0:Int) != 0) rfl,hnew,Bp (c:=(none:Option Bool).getD false) rfl,Ng c,Bp (c:=!true) rfl,ckb (by omega)];refine ih (i+1) _ (by omega) (by omega) (fun m b hm=>?_);rw [Mq] at hm;rw [List.take_succ_eq_append_getElem hc,List.map_append,List.mem_append]
   by_cases e:m=s.Radars[i].Site.Name
   ·exact .inr (by simp [e])
   ·rw [if_neg e] at hm;exact .inl (hB _ _ hm)
  ·rw [Bp (dF (by omega))];rfl
theorem Ty {F:Nat} {s:mosaic_Spec} (hF:100≤F) (h:RG F s):G5 F s=some 0:=by
 have hl:=h.len;unfold G5;rw [Li h.g,Bp (c:=(0:Int) != 0) rfl,Ng h.e,Ku h.age,Bp (c:=bif !true then true else !true) rfl,Bp (by
  have:¬((s.Radars.length:Nat):Int)=0:=by omega
  simpa using this),Bp (dF (by omega))]
 exact T9 h F 0 [] (by omega) (by omega) (fun m b hm=>by cases hm)
theorem Ut {F:Nat} {s:mosaic_Spec} {R:List mosaic_Radar} (hR:R.length≤1000):∀(n i:Nat) (B:List (ByteArray×mosaic_Radar)),i≤R.length→R.length-i<n→Em s R n B (i:Int)=some (.ok (⟨⟨s.Grid,s.Earth,R,s.Age⟩,Sx B (R.drop i),0,[],0,[]⟩,0)):=by
 intro n
 induction n with
 | zero=>intro i B _ h;omega
 | succ n ih =>
  intro i B hi hn;rw [Em];unfold Gu
  by_cases hc:i<R.length
  ·rw [D0 (dT (by omega)),F6 i R[i] rfl (List.getElem?_eq_getElem hc),ckb (by omega),List.drop_eq_getElem_cons hc];exact ih (i+1) _ (by omega) (by omega)
  ·rw [Bp (dF (by omega)),List.drop_eq_nil_of_le (by omega)];rfl
theorem X6 {F:Nat} {s:mosaic_Spec} (hF:100≤F) (h:RG F s):Ex F s=some (.ok (K9 s,0)):=by
 have hl:=h.len;unfold Ex Au;rw [Ty hF h,sbd,Bp (c:=(0:Int) != 0) rfl,Ln (by simp;omega) (by decide),List.nil_append,sbd];exact Ut (F:=F) (by omega) F 0 [] (by omega) (by omega)
end Go.Proofs.Ytkbjbnkkfifbmaa
namespace Go.Proofs.Ytkbjbnkkfifbmaa
open Go Go.RowKit Go.Eng
set_option maxRecDepth 10000
set_option linter.unusedVariables false
set_option linter.unusedSimpArgs false
def Ux (x:law11_Station):Prop:=(-32768≤x.X∧x.X≤32767)∧(-32768≤x.Y∧x.Y≤32767)∧(0≤x.Z∧x.Z≤65535)∧(0≤x.Rose∧x.Rose≤255)∧(0≤x.Gates∧x.Gates≤255)∧(0≤x.Width∧x.Width≤255)∧(0≤x.Lo∧x.Lo≤65535)∧(0≤x.Hi∧x.Hi≤65535)
def Pj (n:law11_Net):Prop:=(0≤n.Wide∧n.Wide≤255)∧(0≤n.High∧n.High≤255)∧(Ux n.Stations.1∧Ux n.Stations.2.1∧Ux n.Stations.2.2)∧(0≤n.Count∧n.Count≤255)∧(0≤n.Age∧n.Age≤65535)
def Kg (p:law11_Post):Prop:=(0≤p.Radar∧p.Radar≤255)∧(0≤p.Tilt∧p.Tilt≤255)∧(0≤p.Time∧p.Time≤65535)∧(∀y∈p.Vals,0≤y∧y≤65535)∧(0≤p.Wide∧p.Wide≤255)
theorem tm {x y:Int} (h:0≤x) (hy:0<y):0≤x.tmod y∧x.tmod y<y:=⟨Int.tmod_nonneg _ h,Int.tmod_lt_of_pos _ hy⟩
theorem tm2 (x:Int) {y:Int} (hy:0<y):-y<x.tmod y∧x.tmod y<y:=by
 refine ⟨?_,Int.tmod_lt_of_pos _ hy⟩;have:=Int.tmod_lt_of_pos (-x) hy;rw [Int.neg_tmod] at this;omega
def nmR (i:Nat):ByteArray:=if i=0 then ⟨#[97]⟩ else if i=1 then ⟨#[98]⟩ else ⟨#[99]⟩
def mkR (i:Nat) (x:law11_Station):mosaic_Radar:=⟨⟨nmR i,x.X.tmod 4000,x.Y.tmod 4000,x.Z.tmod 1000,1+x.Rose.tmod 3,1+x.Gates.tmod 5,1000,x.Width.tmod 3⟩,⟨x.Lo.tmod 601-300,x.Lo.tmod 601-300+x.Hi.tmod 300⟩⟩
def Np (n:law11_Net):List mosaic_Radar:=[mkR 0 n.Stations.1,mkR 1 n.Stations.2.1,mkR 2 n.Stations.2.2].take (n.Count.tmod 3).toNat.succ
def G9 (n:law11_Net):mosaic_Spec:=⟨⟨-2000,-2000,1000,1+n.Wide.tmod 4,1+n.High.tmod 4⟩,⟨8000000,9000000⟩,Np n,1+n.Age.tmod 2000⟩
theorem Kt {n:law11_Net} {a b c:Int} (h:Pj n) (i:Nat) (m:Nat) (l:List mosaic_Radar) (hl:l.length≤3) (hi:(i:Int)≤n.Count.tmod 3) :
  Bc n a b c (m+1) l (i:Int)=Bc n a b c m (l++[mkR i (if i=0 then n.Stations.1 else if i=1 then n.Stations.2.1 else n.Stations.2.2)]) ((i+1:Nat):Int):=by
 obtain ⟨_,_,⟨s1,s2,s3⟩,hc,_⟩:=h;have hcm:=tm hc.1 (y:=3) (by omega);rw [Bc];unfold Do;rw [ckb (by omega),Ez (by omega),D0 (dT hi)];have hi3:i=0∨i=1∨i=2:=by omega
 rcases hi3 with rfl|rfl|rfl
 ·obtain ⟨⟨a1,b1⟩,⟨a2,b2⟩,⟨a3,b3⟩,⟨a4,b4⟩,⟨a5,b5⟩,⟨a6,b6⟩,⟨a7,b7⟩,⟨a8,b8⟩⟩:=s1;have t1:=tm a7 (y:=601) (by omega);have t2:=tm a8 (y:=300) (by omega);have t3:=tm a4 (y:=3) (by omega);have t4:=tm a5 (y:=5) (by omega);rw [D0 (c:=(((0:Nat):Int)==0)) rfl,ckb (by omega),Ez (by omega),ckb (by omega),F6 0 _ rfl rfl,ckb (by omega),Ez (by omega),ckb (by omega),Ez (by omega),ckb (by omega),Ez (by omega),ckb (by omega),Ez (by omega),ckb (by omega),ckb (by omega),Ez (by omega),ckb (by omega),ckb (by omega),Ez (by omega),ckb (by omega),Ez (by omega),ckb (by omega),Ln (by simp;omega) (by decide),ckb (by omega)];rfl
 ·obtain ⟨⟨a1,b1⟩,⟨a2,b2⟩,⟨a3,b3⟩,⟨a4,b4⟩,⟨a5,b5⟩,⟨a6,b6⟩,⟨a7,b7⟩,⟨a8,b8⟩⟩:=s2;have t1:=tm a7 (y:=601) (by omega);have t2:=tm a8 (y:=300) (by omega);have t3:=tm a4 (y:=3) (by omega);have t4:=tm a5 (y:=5) (by omega);rw [Bp (c:=(((1:Nat):Int)==0)) rfl,D0 (c:=(((1:Nat):Int)==1)) rfl,ckb (by omega),Ez (by omega),ckb (by omega),F6 1 _ rfl rfl,ckb (by omega),Ez (by omega),ckb (by omega),Ez (by omega),ckb (by omega),Ez (by omega),ckb (by omega),Ez (by omega),ckb (by omega),ckb (by omega),Ez (by omega),ckb (by omega),ckb (by omega),Ez (by omega),ckb (by omega),Ez (by omega),ckb (by omega),Ln (by simp;omega) (by decide),ckb (by omega)];rfl
 ·obtain ⟨⟨a1,b1⟩,⟨a2,b2⟩,⟨a3,b3⟩,⟨a4,b4⟩,⟨a5,b5⟩,⟨a6,b6⟩,⟨a7,b7⟩,⟨a8,b8⟩⟩:=s3;have t1:=tm a7 (y:=601) (by omega);have t2:=tm a8 (y:=300) (by omega);have t3:=tm a4 (y:=3) (by omega);have t4:=tm a5 (y:=5) (by omega);rw [Bp (c:=(((2:Nat):Int)==0)) rfl,Bp (c:=(((2:Nat):Int)==1)) rfl,D0 (c:=(((2:Nat):Int)==2)) rfl,ckb (by omega),Ez (by omega),ckb (by omega),F6 2 _ rfl rfl,ckb (by omega),Ez (by omega),ckb (by omega),Ez (by omega),ckb (by omega),Ez (by omega),ckb (by omega),Ez (by omega),ckb (by omega),ckb (by omega),Ez (by omega),ckb (by omega),ckb (by omega),Ez (by omega),ckb (by omega),Ez (by omega),ckb (by omega),Ln (by simp;omega) (by decide),ckb (by omega)];rfl
theorem Nj {n:law11_Net} {a b c:Int} (h:Pj n) (i:Nat) (m:Nat) (l:List mosaic_Radar) (hi:¬(i:Int)≤n.Count.tmod 3) :
  Bc n a b c (m+1) l (i:Int)=some ⟨⟨-2000,-2000,1000,a,b⟩,⟨8000000,9000000⟩,l,c⟩:=by
 obtain ⟨_,_,_,hc,_⟩:=h;rw [Bc];unfold Do;rw [ckb (by omega),Ez (by omega),Bp (dF hi)];rfl
theorem W5 {F:Nat} {n:law11_Net} (hF:10≤F) (h:Pj n):Dz F n=some (G9 n):=by
 obtain ⟨m,rfl⟩:∃m,F=m+4:=⟨F-4,by omega⟩;have h':=h;obtain ⟨hw,hh,_,hc,ha⟩:=h';have t1:=tm hw.1 (y:=4) (by omega);have t2:=tm hh.1 (y:=4) (by omega);have t3:=tm ha.1 (y:=2000) (by omega);have t4:=tm hc.1 (y:=3) (by omega);unfold Dz;rw [ckb (by omega),Ez (by omega),ckb (by omega),ckb (by omega),Ez (by omega),ckb (by omega),ckb (by omega),Ez (by omega),ckb (by omega)];have s0:=Kt (a:=1+n.Wide.tmod 4) (b:=1+n.High.tmod 4) (c:=1+n.Age.tmod 2000) h 0 (m+3) [] (by simp) (by omega);refine Eq.trans (b:=Bc n (1+n.Wide.tmod 4) (1+n.High.tmod 4) (1+n.Age.tmod 2000) (m+3) ([]++[mkR 0 n.Stations.1]) ((0+1:Nat):Int)) s0 ?_;have hcc:n.Count.tmod 3=0∨n.Count.tmod 3=1∨n.Count.tmod 3=2:=by omega
 rcases hcc with e|e|e
 ·rw [Nj h 1 (m+2) _ (by omega)];unfold G9 Np;rw [e];rfl
 ·rw [Kt h 1 (m+2) _ (by simp) (by omega),Nj h (1+1) (m+1) _ (by omega)];unfold G9 Np;rw [e];rfl
 ·rw [Kt h 1 (m+2) _ (by simp) (by omega),Kt h (1+1) (m+1) _ (by simp) (by omega),Nj h (1+1+1) m _ (by omega)];unfold G9 Np;rw [e];rfl
theorem Ym (F i:Nat):J8 F (nmR i)=some true:=by
 unfold nmR
 split
 ·kernel_rfl
 ·split<;>kernel_rfl
theorem Yl (i:Nat):nmR i≠ByteArray.empty:=by
 unfold nmR
 split
 ·decide
 ·split<;>decide
structure MR (r:mosaic_Radar):Prop where
 step:r.Site.Step=1000
 width:0≤r.Site.Width∧r.Site.Width≤2
 gates:1≤r.Site.Gates∧r.Site.Gates≤5
theorem Xj {F:Nat} {x:law11_Station} (i:Nat) (h:Ux x):VS (mkR i x).Site∧beam_CheckSite F (mkR i x).Site=some 0∧(-3600≤(mkR i x).Offset.Lo∧(mkR i x).Offset.Lo≤(mkR i x).Offset.Hi∧(mkR i x).Offset.Hi≤3600)∧(mkR i x).Site.Name≠ByteArray.empty∧MR (mkR i x):=by
 obtain ⟨⟨a1,b1⟩,⟨a2,b2⟩,⟨a3,b3⟩,⟨a4,b4⟩,⟨a5,b5⟩,⟨a6,b6⟩,⟨a7,b7⟩,⟨a8,b8⟩⟩:=h;have t1:=tm a7 (y:=601) (by omega);have t2:=tm a8 (y:=300) (by omega);have t3:=tm a4 (y:=3) (by omega);have t4:=tm a5 (y:=5) (by omega);have t5:=tm2 x.X (y:=4000) (by omega);have t6:=tm2 x.Y (y:=4000) (by omega);have t7:=tm a3 (y:=1000) (by omega);have t8:=tm a6 (y:=3) (by omega);have hv:VS (mkR i x).Site:=by
  refine ⟨?_,?_,?_,?_,?_,?_,?_⟩<;>(unfold mkR;dsimp only;omega)
 refine ⟨hv,Pp hv (Ym F i),?_,Yl i,?_⟩
 ·unfold mkR;dsimp only;omega
 ·refine ⟨rfl,?_,?_⟩<;>(unfold mkR;dsimp only;omega)
theorem We {n:law11_Net} (h:Pj n):∀r∈Np n,∃i x,Ux x∧r=mkR i x:=by
 obtain ⟨_,_,⟨s1,s2,s3⟩,_,_⟩:=h;intro r hr;have:=List.mem_of_mem_take hr;simp only [List.mem_cons,List.not_mem_nil,or_false] at this;rcases this with rfl|rfl|rfl
 ·exact ⟨_,_,s1,rfl⟩
 ·exact ⟨_,_,s2,rfl⟩
 ·exact ⟨_,_,s3,rfl⟩
theorem Wm {F:Nat} {n:law11_Net} (h:Pj n):RG F (G9 n):=by
 have h':=h;obtain ⟨hw,hh,_,hc,ha⟩:=h';have t1:=tm hw.1 (y:=4) (by omega);have t2:=tm hh.1 (y:=4) (by omega);have t3:=tm ha.1 (y:=2000) (by omega);have t4:=tm hc.1 (y:=3) (by omega);have hm:=Hl (x:=1+n.Wide.tmod 4) (y:=1+n.High.tmod 4) (A:=4) (B:=4) (by omega) (by omega);have hlen:(Np n).length=(n.Count.tmod 3).toNat.succ:=by
  unfold Np;rw [List.length_take];simp;omega
 refine ⟨?_,?_,?_,?_,?_,?_,?_⟩
 ·refine ⟨?_,?_,?_,?_,?_⟩<;>(unfold G9;dsimp only;omega)
 ·unfold VE G9;dsimp only;omega
 ·unfold G9;dsimp only;omega
 ·unfold pix G9;dsimp only;omega
 ·show 1≤(Np n).length∧(Np n).length≤32;rw [hlen];omega
 ·show ((Np n).map (·.Site.Name)).Nodup;unfold Np;rw [List.map_take];refine List.Nodup.sublist (List.take_sublist _ _) ?_;show [nmR 0,nmR 1,nmR 2].Nodup
  decide
 ·intro r hr;obtain ⟨i,x,hx,rfl⟩:=We h r hr;obtain ⟨a,b,c,d,_⟩:=Xj (F:=F) i hx;exact ⟨a,b,c,d⟩
def K0 (p:law11_Post) (i:Nat):Int:=if p.Vals.length=0 then 0 else (p.Vals[i%p.Vals.length]?).getD 0
theorem Qo {p:law11_Post} (h:Kg p) (i:Nat):0≤K0 p i∧K0 p i≤65535:=by
 unfold K0
 by_cases hl:p.Vals.length=0
 ·rw [if_pos hl];omega
 ·rw [if_neg hl];have hlt:i%p.Vals.length<p.Vals.length:=Nat.mod_lt _ (by omega);rw [List.getElem?_eq_getElem hlt];exact h.2.2.2.1 _ (List.getElem_mem hlt)
def Fi (p:law11_Post) (s:mosaic_Spec):mosaic_Message:=⟨⟨((s.Radars[p.Radar.toNat%s.Radars.length]?).getD default).Site.Name,p.Tilt.tmod 4,p.Time.tmod 2000⟩,(List.range (pix s)).map fun i=>⟨K0 p i,K0 p i+p.Wide⟩⟩
theorem Nr {a b:Nat}:((a:Int)).tmod (b:Int)=((a%b:Nat):Int):=rfl
theorem V1 {F:Nat} {s:mosaic_Spec} {p:law11_Post} {u:mosaic_Radar} {t v:Int} (h:RG F s) (hp:Kg p):∀(n i:Nat) (acc:List api_Span),i≤pix s→pix s-i<n→acc.length=i →
  C0 p s u t v n acc (i:Int)=some ⟨⟨u.Site.Name,t,v⟩,acc++((List.range (pix s)).drop i).map fun i=>⟨K0 p i,K0 p i+p.Wide⟩⟩:=by
 have hpx:=Wc h.gs;have hsm:=h.small;have hw:=hp.2.2.2.2;intro n
 induction n with
 | zero=>intro i _ _ h;omega
 | succ n ih =>
  intro i acc hi hn ha;rw [C0];unfold E8;rw [hpx.1,ckb (by omega)]
  by_cases hc:i<pix s
  ·rw [D0 (dT (by omega))];have hv:=Qo hp i;have fin:Ck p acc (i:Int) (C0 p s u t v n) (K0 p i)=some ⟨⟨u.Site.Name,t,v⟩,acc++((List.range (pix s)).drop i).map fun i=>⟨K0 p i,K0 p i+p.Wide⟩⟩:=by
    unfold Ck;rw [ckb (by omega),ckb (by omega),Ln (by simp;omega) (by decide),ckb (by omega)];have:=ih (i+1) (acc++[⟨K0 p i,K0 p i+p.Wide⟩]) (by omega) (by omega) (by simp;omega);rw [List.append_assoc,List.singleton_append] at this;rw [List.drop_eq_getElem_cons (show i<(List.range (pix s)).length by simpa using hc),List.map_cons,List.getElem_range];exact this
   by_cases hl:p.Vals.length=0
   ·rw [Bp (dF (by omega)),show (0:Int)=K0 p i by unfold K0;rw [if_pos hl]];exact fin
   ·have hlt:i%p.Vals.length<p.Vals.length:=Nat.mod_lt _ (by omega);have e:K0 p i=p.Vals[i%p.Vals.length]:=by
     unfold K0;rw [if_neg hl,List.getElem?_eq_getElem hlt];rfl
    rw [D0 (dT (by omega)),Ez (by omega),Nr,F6 (i%p.Vals.length) (K0 p i) rfl (by rw [e];exact List.getElem?_eq_getElem hlt),ckb (by omega)];exact fin
  ·rw [Bp (dF (by omega)),List.drop_eq_nil_of_le (by simp;omega)];unfold E9;rw [List.map_nil,List.append_nil]
theorem Wd {F:Nat} {s:mosaic_Spec} {p:law11_Post} (hF:600≤F) (h:RG F s) (hp:Kg p):Ei F p s=some (Fi p s):=by
 have hpx:=Wc h.gs;have hsm:=h.small;have hl:=h.len;have hp':=hp;obtain ⟨⟨r1,r2⟩,⟨t1,t2⟩,⟨m1,m2⟩,_,_⟩:=hp';obtain ⟨R,hR⟩:∃R:Nat,p.Radar=R:=⟨p.Radar.toNat,by omega⟩;have hlt:R%s.Radars.length<s.Radars.length:=Nat.mod_lt _ (by omega);unfold Ei;rw [ckb (by omega),Ez (by omega),hR,Nr,F6 (R%s.Radars.length) s.Radars[R%s.Radars.length] rfl (List.getElem?_eq_getElem hlt),ckb (by omega),Ez (by omega),ckb (by omega),Ez (by omega)];have:=V1 (u:=s.Radars[R%s.Radars.length]) (t:=p.Tilt.tmod 4) (v:=p.Time.tmod 2000) h hp F 0 [] (by omega) (by omega) rfl;rw [List.drop_zero,List.nil_append] at this;refine Eq.trans this ?_;unfold Fi;rw [hR,Int.toNat_natCast,List.getElem?_eq_getElem hlt];rfl
theorem Xk {F:Nat} {s:mosaic_Spec} {p:law11_Post} (h:RG F s) (hp:Kg p):okM s (Fi p s)∧(0≤(Fi p s).Key.Tilt∧(Fi p s).Key.Tilt≤3)∧(0≤(Fi p s).Key.Time∧(Fi p s).Key.Time≤1999):=by
 have hl:=h.len;have hlt:p.Radar.toNat%s.Radars.length<s.Radars.length:=Nat.mod_lt _ (by omega);have hw:=hp.2.2.2.2;have a1:=tm hp.2.1.1 (y:=4) (by omega);have a2:=tm hp.2.2.1.1 (y:=2000) (by omega);have k1:0≤(Fi p s).Key.Tilt∧(Fi p s).Key.Tilt≤3:=by unfold Fi;dsimp only;omega
 have k2:0≤(Fi p s).Key.Time∧(Fi p s).Key.Time≤1999:=by unfold Fi;dsimp only;omega
 have hnm:(Fi p s).Key.Name=s.Radars[p.Radar.toNat%s.Radars.length].Site.Name:=by unfold Fi;rw [List.getElem?_eq_getElem hlt];rfl
 have hlk:=h.lk (r:=s.Radars[p.Radar.toNat%s.Radars.length]) (List.getElem_mem hlt);rw [←hnm] at hlk;refine ⟨⟨⟨⟨_,hlk⟩,by omega,by omega⟩,?_,?_⟩,k1,k2⟩
 ·unfold Fi;simp
 ·intro v hv;unfold Fi at hv;simp only [List.mem_map] at hv;obtain ⟨i,_,rfl⟩:=hv;have:=Qo hp i;dsimp only;omega
end Go.Proofs.Ytkbjbnkkfifbmaa
namespace Go.Proofs.Ytkbjbnkkfifbmaa
open Go Go.RowKit Go.Eng
set_option maxRecDepth 10000
set_option linter.unusedVariables false
set_option linter.unusedSimpArgs false
def gBd (u:mosaic_used) (p:Nat):api_Span:=(u.bands[p]?).getD default
def gVl (u:mosaic_used) (p:Nat):api_Span:=(u.vals[p]?).getD default
def Nw (p:Nat) (a b:mosaic_used):Bool:=!(sEq a.Key.Name b.Key.Name)&&Ai (gBd b p)&&!(At (gBd a p) (gBd b p))&&At (gVl a p) (gVl b p)
def Ge (p:Nat) (a:mosaic_used) (l:List mosaic_used):List mosaic_Clash:=(l.filter (Nw p a)).map fun b=>⟨p,a.Key,b.Key⟩
def L8 (p:Nat):List mosaic_used→List mosaic_Clash
 | []=>[]
 | a::l=>(if Ai (gBd a p) then Ge p a l else [])++L8 p l
def Dy (P:Nat) (l:List mosaic_used):List mosaic_Clash:=(List.range P).flatMap fun p=>L8 p l
theorem N5 (p:Nat) (a:mosaic_used) (l:List mosaic_used):(Ge p a l).length≤l.length:=by
 unfold Ge;rw [List.length_map];exact List.length_filter_le _ _
theorem Qs (p:Nat) (l:List mosaic_used) (n:Nat) (h:l.length≤n):(L8 p l).length≤l.length*n:=by
 induction l with
 | nil=>simp [L8]
 | cons a l ih =>
  unfold L8;rw [List.length_append,List.length_cons,Nat.add_mul];rw [List.length_cons] at h;have h1:=ih (by omega);have h2:=N5 p a l;have h3:(if Ai (gBd a p)=true then Ge p a l else []).length≤l.length:=by split<;>simp [h2]
  omega
abbrev YC:=List mosaic_Clash×Int×List (mosaic_where×List api_Span)
theorem U7 {p i:Nat} {k4:Int→List mosaic_Clash→Option YC} {u:mosaic_used} {l:List mosaic_used} {P:Nat} (hu:u.bands.length=P∧u.vals.length=P) (hl:∀x∈l,x.bands.length=P∧x.vals.length=P) (hp:p<P) (hn:l.length≤10000) (hi:i≤100000) :
  ∀(n j:Nat) (acc:List mosaic_Clash),j≤l.length→l.length-j<n→acc.length+(l.length-j)≤1000000000000→B1 (p:Int) (i:Int) k4 u l n (j:Int) acc=k4 ((i:Int)+1) (acc++Ge p u (l.drop j)):=by
 intro n
 induction n with
 | zero=>intro j acc _ h;omega
 | succ n ih =>
  intro j acc hj hn' ha;rw [B1];unfold Cw
  by_cases hc:j<l.length
  ·obtain ⟨b,hb⟩:∃b,b=l[j]:=⟨_,rfl⟩;have hbl:=hl l[j] (List.getElem_mem hc);rw [←hb] at hbl;have hgb:l[j]? = some b:=by rw [hb];exact List.getElem?_eq_getElem hc
   have b1:b.bands[p]? = some (gBd b p):=by unfold gBd;rw [List.getElem?_eq_getElem (by omega)];rfl
   have b2:u.bands[p]? = some (gBd u p):=by unfold gBd;rw [List.getElem?_eq_getElem (by omega)];rfl
   have b3:b.vals[p]? = some (gVl b p):=by unfold gVl;rw [List.getElem?_eq_getElem (by omega)];rfl
   have b4:u.vals[p]? = some (gVl u p):=by unfold gVl;rw [List.getElem?_eq_getElem (by omega)];rfl
   have q1:j+1≤l.length:=hc;have q2:l.length-(j+1)<n:=by omega
   have hd:l.drop j=b::l.drop (j+1):=by rw [List.drop_eq_getElem_cons hc,←hb]
   have no:∀acc',Nw p u b=false→acc'=acc→Ba (j:Int) (B1 (p:Int) (i:Int) k4 u l n) acc'=k4 ((i:Int)+1) (acc++Ge p u (l.drop j)):=by
    rintro acc' h0 rfl;unfold Ba;rw [ckb (by omega),hd];unfold Ge;rw [List.filter_cons_of_neg (by rw [h0];decide)];exact ih (j+1) acc' q1 q2 (by omega)
   rw [D0 (dT (by omega)),F6 j b rfl hgb]
   cases hname:sEq u.Key.Name b.Key.Name with
   | true =>
    rw [gdF (g:=(true==false&&true)) rfl,sbd,gdF (g:=((bif true then true else _)==false&&true)) rfl,sbd,gdF (g:=((bif true then true else _)==false&&true)) rfl,sbd,gdF (g:=((bif (bif true then true else _) then true else _)==false&&true)) rfl,sbd,gdF (g:=((bif (bif true then true else _) then true else _)==false&&true)) rfl,sbd,D0 (c:=bif (bif (bif true then true else _) then true else _) then true else _) rfl];exact no acc (by unfold Nw;rw [hname];rfl) rfl
   | false =>
    rw [gdT (g:=(false==false&&true)) rfl,F6 p _ rfl b1]
    cases hseen:Ai (gBd b p) with
    | false =>
     rw [gdF (g:=((bif false then true else (!false))==false&&true)) rfl,sbd,gdF (g:=((bif false then true else (!false))==false&&true)) rfl,sbd,gdF (g:=((bif (bif false then true else (!false)) then true else _)==false&&true)) rfl,sbd,gdF (g:=((bif (bif false then true else (!false)) then true else _)==false&&true)) rfl,sbd,D0 (c:=bif (bif (bif false then true else (!false)) then true else _) then true else _) rfl];exact no acc (by unfold Nw;rw [hname,hseen];rfl) rfl
    | true =>
     rw [gdT (g:=((bif false then true else (!true))==false&&true)) rfl,F6 p _ rfl b2,gdT (g:=((bif false then true else (!true))==false&&true)) rfl,F6 p _ rfl b1]
     cases hap:At (gBd u p) (gBd b p) with
     | true =>
      rw [gdF (g:=((bif (bif false then true else (!true)) then true else true)==false&&true)) rfl,sbd,gdF (g:=((bif (bif false then true else (!true)) then true else true)==false&&true)) rfl,sbd,D0 (c:=bif (bif (bif false then true else (!true)) then true else true) then true else _) rfl];exact no acc (by unfold Nw;rw [hname,hseen,hap];rfl) rfl
     | false =>
      rw [gdT (g:=((bif (bif false then true else (!true)) then true else false)==false&&true)) rfl,F6 p _ rfl b4,gdT (g:=((bif (bif false then true else (!true)) then true else false)==false&&true)) rfl,F6 p _ rfl b3]
      cases hv:At (gVl u p) (gVl b p) with
      | false =>
       rw [D0 (c:=bif (bif (bif false then true else (!true)) then true else false) then true else (!false)) rfl];exact no acc (by unfold Nw;rw [hname,hseen,hap,hv];rfl) rfl
      | true =>
       rw [Bp (c:=bif (bif (bif false then true else (!true)) then true else false) then true else (!true)) rfl,Ln (by simp;omega) (by decide)];unfold Ba;rw [ckb (by omega),hd];have h0:Nw p u b=true:=by unfold Nw;rw [hname,hseen,hap,hv];rfl
       unfold Ge;rw [List.filter_cons_of_pos h0,List.map_cons];have:=ih (j+1) (acc++[⟨p,u.Key,b.Key⟩]) q1 q2 (by simp;omega);rw [List.append_assoc,List.singleton_append] at this;exact this
  ·rw [Bp (dF (by omega)),List.drop_eq_nil_of_le (by omega)];unfold Bj;rw [ckb (by omega)];show _=k4 ((i:Int)+1) (acc++[]);rw [List.append_nil]
theorem X9 {F P:Nat} {Y:YU} {p:Nat} {k2:Int→List mosaic_Clash→Option YC} (hY:∀u∈Y.1,u.bands.length=P∧u.vals.length=P) (hp:p<P) (hP:P≤10000) (hl:Y.1.length<F) (hl2:Y.1.length≤1000) :
  ∀(n i:Nat) (acc:List mosaic_Clash),i≤Y.1.length→Y.1.length-i<n→acc.length+1000*(Y.1.length-i)≤100000000000→Av F Y (p:Int) k2 n (i:Int) acc=k2 ((p:Int)+1) (acc++L8 p (Y.1.drop i)):=by
 intro n
 induction n with
 | zero=>intro i acc _ h;omega
 | succ n ih =>
  intro i acc hi hn ha;rw [Av];unfold Cv
  by_cases hc:i<Y.1.length
  ·obtain ⟨u,hu⟩:∃u,u=Y.1[i]:=⟨_,rfl⟩;have hul:=hY Y.1[i] (List.getElem_mem hc);rw [←hu] at hul;have hgu:Y.1[i]? = some u:=by rw [hu];exact List.getElem?_eq_getElem hc
   have b2:u.bands[p]? = some (gBd u p):=by unfold gBd;rw [List.getElem?_eq_getElem (by omega)];rfl
   have hd:Y.1.drop i=u::Y.1.drop (i+1):=by rw [List.drop_eq_getElem_cons hc,←hu]
   have q1:i+1≤Y.1.length:=hc;have q2:Y.1.length-(i+1)<n:=by omega
   rw [D0 (dT (by omega)),F6 i u rfl hgu,F6 p _ rfl b2,hd];unfold L8
   cases hseen:Ai (gBd u p) with
   | false =>
    rw [D0 (c:=!false) rfl,if_neg (by decide),List.nil_append];unfold Bj;rw [ckb (by omega)];exact ih (i+1) acc q1 q2 (by omega)
   | true =>
    have hcut:Nx Y.1 ((i:Int)+1) ((Y.1.length:Nat):Int)=some (Y.1.drop (i+1)):=by
     unfold Nx;rw [if_pos (by omega),show ((i:Int)+1).toNat=i+1 by omega,List.take_of_length_le (by simp)]
    rw [Bp (c:=!true) rfl,if_pos rfl,ckb (by omega),hcut,sbd];have hr:=N5 p u (Y.1.drop (i+1));rw [List.length_drop] at hr;have e:B1 (p:Int) (i:Int) (Av F Y (p:Int) k2 n) u (Y.1.drop (i+1)) F 0 acc=_ :=
     U7 (k4:=Av F Y (p:Int) k2 n) (i:=i) hul (fun x hx=>hY x (List.mem_of_mem_drop hx)) hp (by rw [List.length_drop];omega) (by omega) F 0 acc (Nat.zero_le _) (by rw [List.length_drop];omega) (by rw [List.length_drop];omega)
    rw [e,List.drop_zero];have:=ih (i+1) (acc++Ge p u (Y.1.drop (i+1))) q1 q2 (by rw [List.length_append];omega);rw [List.append_assoc] at this;exact this
  ·rw [Bp (dF (by omega)),List.drop_eq_nil_of_le (by omega)];unfold Cy;rw [ckb (by omega)];show _=k2 ((p:Int)+1) (acc++[]);rw [List.append_nil]
theorem U8 {F P:Nat} {Y:YU} (hY:∀u∈Y.1,u.bands.length=P∧u.vals.length=P) (hP:P≤10000) (hl:Y.1.length<F) (hl2:Y.1.length≤1000) :
  ∀(n p:Nat) (acc:List mosaic_Clash),p≤P→P-p<n→acc.length+1000000*(P-p)≤50000000000→B0 F Y (P:Int) n (p:Int) acc=some (acc++((List.range P).drop p).flatMap (fun p=>L8 p Y.1),0,Y.2):=by
 intro n
 induction n with
 | zero=>intro i acc _ h;omega
 | succ n ih =>
  intro p acc hp hn ha;rw [B0];unfold Cu
  by_cases hc:p<P
  ·have q1:p+1≤P:=hc;have q2:P-(p+1)<n:=by omega
   have hlen:=Qs p Y.1 1000 hl2;have hlen2:(L8 p Y.1).length≤1000000:=Nat.le_trans hlen (by omega);rw [D0 (dT (by omega))];have e:Av F Y (p:Int) (B0 F Y (P:Int) n) F 0 acc=_:=X9 (k2:=B0 F Y (P:Int) n) hY hc hP hl hl2 F 0 acc (Nat.zero_le _) (by omega) (by omega);rw [e,List.drop_zero];have:=ih (p+1) (acc++L8 p Y.1) q1 q2 (by rw [List.length_append];omega);rw [List.append_assoc] at this;rw [List.drop_eq_getElem_cons (show p<(List.range P).length by simpa using hc),List.flatMap_cons,List.getElem_range];exact this
  ·rw [Bp (dF (by omega)),List.drop_eq_nil_of_le (by simp;omega)];unfold Cx;rw [List.flatMap_nil,List.append_nil]
theorem L2 {F:Nat} {s:mosaic_Spec} {N:mosaic_Node} {t:Int} (hF:1000≤F) (hs:GS F s) (h:NI F s N) (hn:tot N.kept<900) (ht:0≤t∧t≤4294967296) (hh:N.horizon≤t) :
  ∃L,Bn F N t=some (Dy (pix s) ((Ft s N t).map (Cg F s N)),0,L)∧LV F s L:=by
 obtain ⟨L,e,hL⟩:=Yb (t:=t) hF hs h hn (by omega);have hp:=Wc hs;have hsm:=hs.small;have hul:((Ft s N t).map (Cg F s N)).length≤tot N.kept:=by
  rw [List.length_map];exact Nat.le_trans (List.length_filter_le _ _) h.small
 refine ⟨L,?_,hL⟩;unfold Bn;rw [U1 ht hh,sbd,Bp (c:=(0:Int) != 0) rfl,e,sbd,h.spec,hp.1,ckb (by omega)];have:=U8 (F:=F) (P:=pix s) (Y:=((Ft s N t).map (Cg F s N),L)) (Vb hF hs h) (by omega) (by show ((Ft s N t).map (Cg F s N)).length<F;omega) (by show ((Ft s N t).map (Cg F s N)).length≤1000;omega) F 0 [] (by omega) (by omega) (by simp;omega);rw [List.drop_zero,List.nil_append] at this;exact this
theorem Rr {P:Nat} {l:List mosaic_used} (h:∀p,p<P→∀a∈l,∀b∈l,At (gVl a p) (gVl b p)=false):Dy P l=[]:=by
 unfold Dy;rw [List.flatMap_eq_nil_iff];intro p hp;rw [List.mem_range] at hp;replace h:=h p hp
 clear hp
 induction l with
 | nil=>rfl
 | cons a l ih =>
  unfold L8;rw [ih (fun x hx y hy=>h x (.tail _ hx) y (.tail _ hy)),List.append_nil]
  split
  ·unfold Ge;rw [List.map_eq_nil_iff,List.filter_eq_nil_iff];intro b hb;unfold Nw;rw [h a (.head _) b (.tail _ hb),Bool.and_false];decide
  ·rfl
theorem Rt {P:Nat} {K:List mosaic_Key} {f g:mosaic_Key→mosaic_used} (h:∀k∈K,(f k).Key=(g k).Key∧(f k).bands=(g k).bands∧∀p,p<P→(gVl (g k) p).Lo≤(gVl (f k) p).Lo∧(gVl (f k) p).Hi≤(gVl (g k) p).Hi):∀c∈Dy P (K.map g),c∈Dy P (K.map f):=by
 intro c hc;unfold Dy at hc ⊢;rw [List.mem_flatMap] at hc ⊢;obtain ⟨p,hp,hc⟩:=hc;refine ⟨p,hp,?_⟩;rw [List.mem_range] at hp;have row:∀a,a∈K→∀L:List mosaic_Key,(∀k∈L,k∈K)→∀c∈Ge p (g a) (L.map g),c∈Ge p (f a) (L.map f):=by
  intro a ha L hL c hc;unfold Ge at hc ⊢;obtain ⟨b,hb,rfl⟩:=List.mem_map.1 hc;obtain ⟨hb1,hb2⟩:=List.mem_filter.1 hb;obtain ⟨k,hk,rfl⟩:=List.mem_map.1 hb1;obtain ⟨a1,a2,a3⟩:=h a ha;obtain ⟨k1,k2,k3⟩:=h k (hL k hk);refine List.mem_map.2 ⟨f k,List.mem_filter.2 ⟨List.mem_map.2 ⟨k,hk,rfl⟩,?_⟩,by rw [a1,k1]⟩;unfold Nw at hb2 ⊢;rw [Bool.and_eq_true,Bool.and_eq_true,Bool.and_eq_true] at hb2 ⊢;obtain ⟨⟨⟨c1,c2⟩,c3⟩,c4⟩:=hb2;have eb:∀u v:mosaic_used,u.bands=v.bands→gBd u p=gBd v p:=fun u v e=>by unfold gBd;rw [e]
  rw [a1,k1,eb _ _ a2,eb _ _ k2];refine ⟨⟨⟨c1,c2⟩,c3⟩,?_⟩;have x1:=a3 p hp;have x2:=k3 p hp;unfold At at c4 ⊢
  by_cases g1:(gVl (g a) p).Lo>(gVl (g k) p).Hi
  ·rw [dT (show (gVl (f a) p).Lo>(gVl (f k) p).Hi by omega)];rfl
  ·rw [dF g1] at c4;have c5:=of_decide_eq_true (show decide ((gVl (g k) p).Lo>(gVl (g a) p).Hi)=true from c4)
   by_cases g2:(gVl (f a) p).Lo>(gVl (f k) p).Hi
   ·rw [dT g2];rfl
   ·rw [dF g2];exact dT (show (gVl (f k) p).Lo>(gVl (f a) p).Hi by omega)
 have go:∀L:List mosaic_Key,(∀k∈L,k∈K)→∀c∈L8 p (L.map g),c∈L8 p (L.map f):=by
  intro L
  induction L with
  | nil=>intro _ c hc;exact hc
  | cons a L ih =>
   intro hL c hc;rw [List.map_cons] at hc ⊢;unfold L8 at hc ⊢;rw [List.mem_append] at hc ⊢;have ea:gBd (f a) p=gBd (g a) p:=by unfold gBd;rw [(h a (hL a (.head _))).2.1]
   rcases hc with hc|hc
   ·left;rw [ea]
    split at hc
    ·rename_i hs
     rw [if_pos hs];exact row a (hL a (.head _)) L (fun k hk=>hL k (.tail _ hk)) c hc
    ·cases hc
   ·exact .inr (ih (fun k hk=>hL k (.tail _ hk)) c hc)
 exact go K (fun k hk=>hk) c hc
end Go.Proofs.Ytkbjbnkkfifbmaa
namespace Go.Proofs.Ytkbjbnkkfifbmaa
open Go Go.RowKit Go.Eng
set_option maxRecDepth 10000
set_option linter.unusedVariables false
set_option linter.unusedSimpArgs false
theorem W6 {F:Nat} {p1:(List law11_Post)} {p2:(List Int)} {p4:Int} {x7001:Int} {x7002:Int} {x7003:Int} {x7004:Int} {x7005:Int} {x7006:Int} {x7007:Int} {x7008:Int} {x7009:Int} {l7012:(List mosaic_Radar)} {x7014:Int} {x7015:Int} {x7016:Int} {x7017:Int} {x7018:Int} {x7019:Int} {x7020:Int} {x7021:Int} {x7022:Int} {x7023:Int} {l7026:(List mosaic_Radar)} {x7028:Int} {x7029:Int} {x7030:Int} {x7031:Int} {x7032:Int} {x7033:Int} {x7034:Int} {x7035:Int} {x7036:Int} {x7037:Int} {l7040:(List mosaic_Radar)} {x7042:Int} {l7043:(List (ByteArray×mosaic_Radar))} {l7044:(List (mosaic_Key×(List (List api_Span))))} {l7047:(List (mosaic_where×(List api_Span)))} {l7050:(List (ByteArray×mosaic_Radar))} {l7051:(List (mosaic_Key×(List (List api_Span))))} {l7054:(List (mosaic_where×(List api_Span)))} {l7057:(List (ByteArray×mosaic_Radar))} {l7058:(List (mosaic_Key×(List (List api_Span))))} {l7061:(List (mosaic_where×(List api_Span)))} {l7066:(List mosaic_Key)} {x7067:Int} {k7:(Int→Int→Int→Int→Int→Int→Int→Int→Int→(List mosaic_Radar)→Int→Int→Int→Int→Int→Int→Int→Int→Int→Int→(List mosaic_Radar)→Int→Int→Int→Int→Int→Int→Int→Int→Int→Int→(List mosaic_Radar)→Int→(List (ByteArray×mosaic_Radar))→(List (mosaic_Key×(List (List api_Span))))→(List (mosaic_where×(List api_Span)))→(List (ByteArray×mosaic_Radar))→(List (mosaic_Key×(List (List api_Span))))→(List (mosaic_where×(List api_Span)))→(List (ByteArray×mosaic_Radar))→(List (mosaic_Key×(List (List api_Span))))→(List (mosaic_where×(List api_Span)))→(List mosaic_Key)→Int→Option Bool)} {y7742:mosaic_Message} (hL:l7066.length≤1000):∀(n j:Nat) (c:Bool),j≤l7066.length→l7066.length-j<n →
  Bu F p1 p2 p4 x7001 x7002 x7003 x7004 x7005 x7006 x7007 x7008 x7009 l7012 x7014 x7015 x7016 x7017 x7018 x7019 x7020 x7021 x7022 x7023 l7026 x7028 x7029 x7030 x7031 x7032 x7033 x7034 x7035 x7036 x7037 l7040 x7042 l7043 l7044 l7047 l7050 l7051 l7054 l7057 l7058 l7061 l7066 x7067 k7 y7742 n c (j:Int)=Cr F p1 p2 p4 x7001 x7002 x7003 x7004 x7005 x7006 x7007 x7008 x7009 l7012 x7014 x7015 x7016 x7017 x7018 x7019 x7020 x7021 x7022 x7023 l7026 x7028 x7029 x7030 x7031 x7032 x7033 x7034 x7035 x7036 x7037 l7040 x7042 l7043 l7044 l7047 l7050 l7051 l7054 l7057 l7058 l7061 l7066 x7067 k7 y7742 (c||(l7066.drop j).any fun k=>decide (k=y7742.Key)):=by
 intro n
 induction n with
 | zero=>intro j c _ h;omega
 | succ n ih =>
  intro j c hj hn;rw [Bu];unfold D7
  by_cases hc:j<l7066.length
  ·rw [D0 (dT (by omega)),List.drop_eq_getElem_cons hc,List.any_cons]
   cases c with
   | false =>
    rw [gdT (g:=(false==false&&true)) rfl,F6 j l7066[j] rfl (List.getElem?_eq_getElem hc),ckb (by omega),Vv];refine (ih (j+1) _ (by omega) (by omega)).trans ?_;rfl
   | true =>
    rw [gdF (g:=(true==false&&true)) rfl,sbd,ckb (by omega)];refine (ih (j+1) _ (by omega) (by omega)).trans ?_;rfl
  ·rw [Bp (dF (by omega)),List.drop_eq_nil_of_le (by omega)];simp
def rainP (p2:List Int) (i:Nat):Int:=if p2.length=0 then 0 else (p2[i%p2.length]?).getD 0
theorem No {p2:List Int} (h:∀y∈p2,0≤y∧y≤65535) (i:Nat):0≤rainP p2 i∧rainP p2 i≤65535:=by
 unfold rainP
 by_cases hl:p2.length=0
 ·rw [if_pos hl];omega
 ·rw [if_neg hl];have hlt:i%p2.length<p2.length:=Nat.mod_lt _ (by omega);rw [List.getElem?_eq_getElem hlt];exact h _ (List.getElem_mem hlt)
def S9 (x:Int):Int:=if x>0 then x else 0
def Nt (w:Int) (v:api_Span):api_Span:=⟨S9 (v.Lo-w),v.Hi+w⟩
def Ns (p:law11_Post) (p2:List Int) (i:Nat):api_Span:=⟨S9 (rainP p2 i-p.Wide),rainP p2 i+p.Tilt⟩
theorem Ws {F:Nat} {p1:(List law11_Post)} {p2:(List Int)} {p4:Int} {x7001:Int} {x7002:Int} {x7003:Int} {x7004:Int} {x7005:Int} {x7006:Int} {x7007:Int} {x7008:Int} {x7009:Int} {l7012:(List mosaic_Radar)} {x7014:Int} {x7015:Int} {x7016:Int} {x7017:Int} {x7018:Int} {x7019:Int} {x7020:Int} {x7021:Int} {x7022:Int} {x7023:Int} {l7026:(List mosaic_Radar)} {x7028:Int} {l7043:(List (ByteArray×mosaic_Radar))} {l7044:(List (mosaic_Key×(List (List api_Span))))} {l7047:(List (mosaic_where×(List api_Span)))} {l7050:(List (ByteArray×mosaic_Radar))} {l7051:(List (mosaic_Key×(List (List api_Span))))} {l7054:(List (mosaic_where×(List api_Span)))} {x7067:Int} {k7:(Int→Int→Int→Int→Int→Int→Int→Int→Int→(List mosaic_Radar)→Int→Int→Int→Int→Int→Int→Int→Int→Int→Int→(List mosaic_Radar)→Int→Int→Int→Int→Int→Int→Int→Int→Int→Int→(List mosaic_Radar)→Int→(List (ByteArray×mosaic_Radar))→(List (mosaic_Key×(List (List api_Span))))→(List (mosaic_where×(List api_Span)))→(List (ByteArray×mosaic_Radar))→(List (mosaic_Key×(List (List api_Span))))→(List (mosaic_where×(List api_Span)))→(List (ByteArray×mosaic_Radar))→(List (mosaic_Key×(List (List api_Span))))→(List (mosaic_where×(List api_Span)))→(List mosaic_Key)→Int→Option Bool)} {y7742:mosaic_Message} {l7809:(List mosaic_Key)} {y7812:(Bool×Int×mosaic_Node)} {q:Nat} {po:law11_Post} (hix:x7067=(q:Int)) (hpo:p1[q]? = some po) (hp:Kg po) (hw:0≤p4∧p4≤255) (hr:∀y∈p2,0≤y∧y≤65535) (hv:∀v∈y7742.Vals,0≤v.Lo∧v.Lo≤v.Hi∧v.Hi≤1000000) (hl:y7742.Vals.length≤1000) :
  ∀(n j:Nat) (a b:List api_Span),j≤y7742.Vals.length→y7742.Vals.length-j<n→a.length=j→b.length=j →
  Bi F p1 p2 p4 x7001 x7002 x7003 x7004 x7005 x7006 x7007 x7008 x7009 l7012 x7014 x7015 x7016 x7017 x7018 x7019 x7020 x7021 x7022 x7023 l7026 x7028 l7043 l7044 l7047 l7050 l7051 l7054 x7067 k7 y7742 l7809 y7812 n a b (j:Int)=Bs F x7001 x7002 x7003 x7004 x7005 x7006 x7007 x7008 x7009 l7012 x7014 x7015 x7016 x7017 x7018 x7019 x7020 x7021 x7022 x7023 l7026 x7028 l7043 l7044 l7047 l7050 l7051 l7054 x7067 k7 y7742 l7809 y7812 (a++(y7742.Vals.drop j).map (Nt p4)) (b++((List.range y7742.Vals.length).drop j).map (Ns po p2)):=by
 intro n
 induction n with
 | zero=>intro j a b _ h;omega
 | succ n ih =>
  intro j a b hj hn ha hb;rw [Bi];unfold D6
  by_cases hc:j<y7742.Vals.length
  ·have hvj:=hv _ (List.getElem_mem hc);have hrj:=No hr j;obtain ⟨r1,r2,r3,r4,r5⟩:=hp;have q1:j+1≤y7742.Vals.length:=hc;have q2:y7742.Vals.length-(j+1)<n:=by omega
   rw [D0 (dT (by omega))];have fin:Bt p1 p4 x7067 y7742 a b (j:Int) (Bi F p1 p2 p4 x7001 x7002 x7003 x7004 x7005 x7006 x7007 x7008 x7009 l7012 x7014 x7015 x7016 x7017 x7018 x7019 x7020 x7021 x7022 x7023 l7026 x7028 l7043 l7044 l7047 l7050 l7051 l7054 x7067 k7 y7742 l7809 y7812 n) (rainP p2 j)=Bs F x7001 x7002 x7003 x7004 x7005 x7006 x7007 x7008 x7009 l7012 x7014 x7015 x7016 x7017 x7018 x7019 x7020 x7021 x7022 x7023 l7026 x7028 l7043 l7044 l7047 l7050 l7051 l7054 x7067 k7 y7742 l7809 y7812 (a++(y7742.Vals.drop j).map (Nt p4)) (b++((List.range y7742.Vals.length).drop j).map (Ns po p2)):=by
    unfold Bt;rw [F6 j _ rfl (List.getElem?_eq_getElem hc),ckb (by omega),ckb (by omega),F6 j _ rfl (List.getElem?_eq_getElem hc),ckb (by omega),ckb (by omega),Ln (by simp;omega) (by decide),F6 q po hix hpo,ckb (by omega),ckb (by omega),F6 q po hix hpo,ckb (by omega),ckb (by omega),Ln (by simp;omega) (by decide),ckb (by omega)];have:=ih (j+1) (a++[Nt p4 y7742.Vals[j]]) (b++[Ns po p2 j]) q1 q2 (by simp;omega) (by simp;omega);rw [List.append_assoc,List.singleton_append,List.append_assoc,List.singleton_append] at this;rw [List.drop_eq_getElem_cons hc,List.map_cons,List.drop_eq_getElem_cons (show j<(List.range y7742.Vals.length).length by simpa using hc),List.map_cons,List.getElem_range];exact this
   by_cases hl2:p2.length=0
   ·rw [Bp (dF (by omega)),show (0:Int)=rainP p2 j by unfold rainP;rw [if_pos hl2]];exact fin
   ·have hlt:j%p2.length<p2.length:=Nat.mod_lt _ (by omega);have e:rainP p2 j=p2[j%p2.length]:=by
     unfold rainP;rw [if_neg hl2,List.getElem?_eq_getElem hlt];rfl
    rw [D0 (dT (by omega)),Ez (by omega),Nr,F6 (j%p2.length) (rainP p2 j) rfl (by rw [e];exact List.getElem?_eq_getElem hlt),ckb (by omega)];exact fin
  ·rw [Bp (dF (by omega)),List.drop_eq_nil_of_le (by omega),List.drop_eq_nil_of_le (by simp;omega)];rw [List.map_nil,List.append_nil,List.map_nil,List.append_nil]
theorem Mz (x:Int):0≤S9 x∧x≤S9 x∧(S9 x=x∨S9 x=0):=by unfold S9;split<;>omega
structure Tri (P:Nat) (p2:List Int) (A B C:mosaic_Node) (k:mosaic_Key):Prop where
 ex:∃va vb vc,kl A.kept k=[va]∧kl B.kept k=[vb]∧kl C.kept k=[vc]∧va.length=P∧vb.length=P∧vc.length=P∧(∀(p:Nat) v,va[p]? = some v→v.Lo≤rainP p2 p∧rainP p2 p≤v.Hi)∧(∀(p:Nat) v w,vb[p]? = some v→vc[p]? = some w→w.Lo≤v.Lo∧v.Hi≤w.Hi)
structure Inv3 (F:Nat) (s:mosaic_Spec) (p2:List Int) (A B C:mosaic_Node) (l:List mosaic_Key):Prop where
 a:NI F s A
 b:NI F s B
 c:NI F s C
 h:A.horizon=0∧B.horizon=0∧C.horizon=0
 ka:A.kept.map (·.1)=l
 kb:B.kept.map (·.1)=l
 kc:C.kept.map (·.1)=l
 t:∀k∈l,Tri (pix s) p2 A B C k
theorem Y7 {B:List (mosaic_Key×List (List api_Span))} {k:mosaic_Key} {v:List (List api_Span)} (h:k∉B.map (·.1)):(upM B k v).map (·.1)=B.map (·.1)++[k]:=by
 induction B with
 | nil=>rfl
 | cons p B ih =>
  rw [List.map_cons,List.mem_cons,not_or] at h;unfold upM;rw [if_neg h.1,List.map_cons,ih h.2];rfl
theorem Ul {B:List (mosaic_Key×List (List api_Span))} {k:mosaic_Key} (h:k∉B.map (·.1)):kl B k=[]:=by unfold kl;rw [Vy h];rfl
theorem Yi {B:List (mosaic_Key×List (List api_Span))} {k x:mosaic_Key} {v:List (List api_Span)}:kl (upM B k v) x=if x=k then v else kl B x:=by
 unfold kl;rw [Mq]
 by_cases h:x=k
 ·rw [if_pos h,if_pos h];rfl
 ·rw [if_neg h,if_neg h]
theorem Kv {B:List (mosaic_Key×List (List api_Span))} (hn:(B.map (·.1)).Nodup) (h:∀k∈B.map (·.1),(kl B k).length=1):tot B=B.length:=by
 induction B with
 | nil=>rfl
 | cons p B ih =>
  rw [List.map_cons,List.nodup_cons] at hn;have e1:tot (p::B)=p.2.length+tot B:=by simp [tot]
  have e2:kl (p::B) p.1=p.2:=by unfold kl lkM;rw [if_pos rfl];rfl
  have h1:=h p.1 (by simp);rw [e2] at h1;rw [e1,h1,List.length_cons,ih hn.2]
  ·omega
  ·intro k hk;have:=h k (by rw [List.map_cons];exact .tail _ hk);have e3:kl (p::B) k=kl B k:=by
    unfold kl;show (if k=p.1 then some p.2 else lkM B k).getD []=_;rw [if_neg (fun e:k=p.1=>hn.1 (e▸hk))]
   rw [e3] at this;exact this
theorem M9 {F:Nat} {s:mosaic_Spec} {N:mosaic_Node} {m:mosaic_Message} (hF:1000≤F) (hs:GS F s) (hN:NI F s N) (hm:okM s m) (hh:N.horizon=0) (hc:N.count<256) (hk:m.Key∉N.kept.map (·.1)) :
  ∃b,B4 F N m=some (b,0,L0 N m 0)∧NI F s (L0 N m 0):=by
 have ht:=hm.key.2.2;obtain ⟨r,b,e,r1,r2,-⟩:=Tz hF hs hN hm (by omega) hc;have hk0:=Ul hk;rw [hk0] at r1 r2;have hr:r=0:=by simpa using r1
 subst hr
 cases b with
 | true=>obtain ⟨x,hx,_⟩:=r2.1 rfl;simp at hx
 | false=>exact ⟨_,e,hN.put hm (by rw [hk0];exact Nat.le_refl _)⟩
theorem Qg {N:mosaic_Node} {m:mosaic_Message} (hk:m.Key∉N.kept.map (·.1)) (x:mosaic_Key):kl (L0 N m 0).kept x=if x=m.Key then [m.Vals] else kl N.kept x:=by
 show kl (upM N.kept m.Key (Lx (kl N.kept m.Key) 0 m.Vals)) x=_;rw [Yi,Ul hk];rfl
theorem Mi {N:mosaic_Node} {m:mosaic_Message} (hk:m.Key∉N.kept.map (·.1)):(L0 N m 0).kept.map (·.1)=N.kept.map (·.1)++[m.Key]:=Y7 hk
def Kn (p4:Int) (m:mosaic_Message):mosaic_Message:=⟨m.Key,m.Vals.map (Nt p4)⟩
def Km (po:law11_Post) (p2:List Int) (m:mosaic_Message):mosaic_Message:=⟨m.Key,(List.range m.Vals.length).map (Ns po p2)⟩
theorem Inv3.put {F:Nat} {s:mosaic_Spec} {p2:List Int} {p4:Int} {A B C:mosaic_Node} {l:List mosaic_Key} {m:mosaic_Message} {po:law11_Post} (h:Inv3 F s p2 A B C l) (hm:m.Key∉l) (hml:m.Vals.length=pix s) (hp:Kg po) (hw:0≤p4) (hr:∀y∈p2,0≤y∧y≤65535) (hv:∀v∈m.Vals,0≤v.Lo)
  (na:NI F s (L0 A (Km po p2 m) 0)) (nb:NI F s (L0 B m 0)) (nc:NI F s (L0 C (Kn p4 m) 0)):Inv3 F s p2 (L0 A (Km po p2 m) 0) (L0 B m 0) (L0 C (Kn p4 m) 0) (l++[m.Key]):=by
 have ha:(Km po p2 m).Key∉A.kept.map (·.1):=by rw [h.ka];exact hm
 have hb:m.Key∉B.kept.map (·.1):=by rw [h.kb];exact hm
 have hc:(Kn p4 m).Key∉C.kept.map (·.1):=by rw [h.kc];exact hm
 refine ⟨na,nb,nc,h.h,?_,?_,?_,?_⟩
 ·rw [Mi ha,h.ka];rfl
 ·rw [Mi hb,h.kb]
 ·rw [Mi hc,h.kc];rfl
 ·intro k hk;constructor;rw [Qg ha,Qg hb,Qg hc]
  by_cases hkm:k=m.Key
  ·subst hkm;rw [if_pos (show m.Key=(Km po p2 m).Key from rfl),if_pos (show m.Key=m.Key from rfl),if_pos (show m.Key=(Kn p4 m).Key from rfl)];refine ⟨_,_,_,rfl,rfl,rfl,by simp [Km,hml],hml,by simp [Kn,hml],?_,?_⟩
   ·intro p v hpv;unfold Km at hpv;simp only [List.getElem?_map] at hpv;obtain ⟨q,hq,rfl⟩:=Option.map_eq_some_iff.1 hpv;obtain ⟨hq1,rfl⟩:=List.getElem?_eq_some_iff.1 hq;rw [List.getElem_range];obtain ⟨⟨r1,_⟩,⟨r2,_⟩,_,_,⟨r5,_⟩⟩:=hp;have hrj:=No hr p;unfold Ns;have:=Mz (rainP p2 p-po.Wide);dsimp only;omega
   ·intro p v w hpv hpw;unfold Kn at hpw;simp only [List.getElem?_map] at hpw;rw [hpv] at hpw
    cases hpw
    have h0:=hv v (List.mem_of_getElem? hpv);unfold Nt;have:=Mz (v.Lo-p4);dsimp only;omega
  ·rw [if_neg hkm,if_neg (show ¬k=(Km po p2 m).Key from hkm),if_neg (show ¬k=(Kn p4 m).Key from hkm)];rcases List.mem_append.1 hk with hk|hk
   ·exact (h.t k hk).ex
   ·exact absurd (List.mem_singleton.1 hk) hkm
theorem Rk {s:mosaic_Spec} {N M:mosaic_Node} {t:Int} (h1:N.kept.map (·.1)=M.kept.map (·.1)) (h2:∀k∈N.kept.map (·.1),(kl N.kept k).length=(kl M.kept k).length):Ft s N t=Ft s M t:=by
 have e1:ksN N=ksN M:=by unfold ksN;rw [h1]
 have e2:∀L:List mosaic_Key,(∀k∈L,k∈N.kept.map (·.1))→∀B,Lb s N t B L=Lb s M t B L:=by
  intro L
  induction L with
  | nil=>intro _ B;rfl
  | cons k L ih =>
   intro hL B;show Lb s N t (if H4 s N t k then upM B (whK k) k else B) L=Lb s M t (if H4 s M t k then upM B (whK k) k else B) L;have:H4 s N t k=H4 s M t k:=by unfold H4;rw [h2 k (hL k (.head _))]
   rw [this];exact ih (fun x hx=>hL x (.tail _ hx)) _
 unfold Ft;rw [←e1,e2 (ksN N) (fun k hk=>(Jf N).2.1.mem_iff.1 hk) []]
theorem U6 {F:Nat} {Y Z:YC} {i:Nat} {k3:Int→Option Bool} (hY:Y.1.length≤100000) {z:mosaic_Clash} (hz:Z.1[i]? = some z) (hi:i≤100000000) :
  ∀(n j:Nat) (c:Bool),j≤Y.1.length→Y.1.length-j<n→(c=true∨z∈Y.1.drop j)→C5 Y Z (i:Int) k3 n c (j:Int)=k3 ((i:Int)+1):=by
 intro n
 induction n with
 | zero=>intro j c _ h;omega
 | succ n ih =>
  intro j c hj hn hcz;rw [C5];unfold Dk
  by_cases hc:j<Y.1.length
  ·rw [D0 (dT (by omega))];rw [List.drop_eq_getElem_cons hc] at hcz
   cases c with
   | true =>
    rw [gdF (g:=(true==false&&true)) rfl,sbd,gdF (g:=(true==false&&true)) rfl,sbd,ckb (by omega),cond_true];exact ih (j+1) true (by omega) (by omega) (.inl rfl)
   | false =>
    rw [gdT (g:=(false==false&&true)) rfl,F6 j _ rfl (List.getElem?_eq_getElem hc),gdT (g:=(false==false&&true)) rfl,F6 i z rfl hz,ckb (by omega),cond_false,Vv];refine ih (j+1) _ (by omega) (by omega) ?_;rcases hcz with h|h
    ·cases h
    ·rcases List.mem_cons.1 h with h|h
     ·left;rw [←h,dT rfl];have e:=Vv z.B z.B;rw [dT rfl] at e;simp only [Bool.and_true] at e ⊢;rw [e];simp
     ·exact .inr h
  ·rw [Bp (dF (by omega))];rw [List.drop_eq_nil_of_le (by omega)] at hcz;rcases hcz with h|h
   ·subst h;unfold Dn Dm;rw [Bp (c:=!true) rfl,ckb (by omega)]
   ·cases h
theorem U5 {F:Nat} {Y Z:YC} (hY:Y.1.length<F) (hY2:Y.1.length≤100000) (hZ:Z.1.length≤100000) (hs:∀z∈Z.1,z∈Y.1):∀(n i:Nat),i≤Z.1.length→Z.1.length-i<n→Bm F Y Z n (i:Int)=Be F:=by
 intro n
 induction n with
 | zero=>intro i _ h;omega
 | succ n ih =>
  intro i hi hn;rw [Bm];unfold Dj
  by_cases hc:i<Z.1.length
  ·rw [D0 (dT (by omega))];have:=U6 (F:=F) (k3:=Bm F Y Z n) (i:=i) hY2 (List.getElem?_eq_getElem hc) (by omega) F 0 false (Nat.zero_le _) (by omega) (.inr (by rw [List.drop_zero];exact hs _ (List.getElem_mem hc)));refine Eq.trans this ?_;exact ih (i+1) (by omega) (by omega)
  ·rw [Bp (dF (by omega))]
theorem Rq (P:Nat) (l:List mosaic_used) (n:Nat) (h:l.length≤n):(Dy P l).length≤P*(n*n):=by
 have hr:∀k,((List.range P).drop (P-k)).length≤k:=fun k=>by simp;omega
 unfold Dy;have go:∀L:List Nat,(L.flatMap fun p=>L8 p l).length≤L.length*(n*n):=by
  intro L
  induction L with
  | nil=>simp
  | cons p L ih =>
   rw [List.flatMap_cons,List.length_append,List.length_cons,Nat.add_mul];have h1:=Qs p l n h;have h2:l.length*n≤n*n:=Nat.mul_le_mul_right _ h;omega
 have:=go (List.range P)
 rwa [List.length_range] at this
theorem Rp {F:Nat} {s:mosaic_Spec} {p2:List Int} {p3:Int} {A B C:mosaic_Node} {l:List mosaic_Key} (hF:3000≤F) (hP:pix s≤16) (h:RG F s) (hI:Inv3 F s p2 A B C l) (hl:l.length≤12) (hp:0≤p3∧p3≤65535) :
  Cq F p3 C.spec.Grid.X C.spec.Grid.Y C.horizon C.count C.spec.Grid.Size C.spec.Grid.Wide C.spec.Grid.High C.spec.Earth.Lo C.spec.Earth.Hi C.spec.Radars C.spec.Age A.spec.Grid.X A.spec.Grid.Y A.horizon A.count A.spec.Grid.Size A.spec.Grid.Wide A.spec.Grid.High A.spec.Earth.Lo A.spec.Earth.Hi A.spec.Radars A.spec.Age B.spec.Grid.X B.spec.Grid.Y B.horizon B.count B.spec.Grid.Size B.spec.Grid.Wide B.spec.Grid.High B.spec.Earth.Lo B.spec.Earth.Hi B.spec.Radars B.spec.Age C.radars C.kept C.looks A.radars A.kept A.looks B.radars B.kept B.looks=Be F:=by
 have ht:=tm hp.1 (y:=4000) (by omega);obtain ⟨t,ht'⟩:∃t,t=p3.tmod 4000:=⟨_,rfl⟩;rw [←ht'] at ht;have one:∀k∈l,(kl A.kept k).length=1∧(kl B.kept k).length=1∧(kl C.kept k).length=1:=fun k hk=>by
  obtain ⟨va,vb,vc,e1,e2,e3,-⟩:=(hI.t k hk).ex;rw [e1,e2,e3];exact ⟨rfl,rfl,rfl⟩
 have tA:tot A.kept≤12:=by
  rw [Kv hI.a.nd (fun k hk=>(one k (hI.ka▸hk)).1)];have:=congrArg List.length hI.ka;rw [List.length_map] at this;omega
 have tB:tot B.kept≤12:=by
  rw [Kv hI.b.nd (fun k hk=>(one k (hI.kb▸hk)).2.1)];have:=congrArg List.length hI.kb;rw [List.length_map] at this;omega
 have tC:tot C.kept≤12:=by
  rw [Kv hI.c.nd (fun k hk=>(one k (hI.kc▸hk)).2.2)];have:=congrArg List.length hI.kc;rw [List.length_map] at this;omega
 obtain ⟨hA0,hB0,hC0⟩:=hI.h;obtain ⟨LA,eA,_⟩:=L2 (t:=t) (by omega) h.gs hI.a (by omega) (by omega) (by omega);obtain ⟨LB,eB,_⟩:=L2 (t:=t) (by omega) h.gs hI.b (by omega) (by omega) (by omega);obtain ⟨LC,eC,_⟩:=L2 (t:=t) (by omega) h.gs hI.c (by omega) (by omega) (by omega);have uA:Ft s A t=Ft s B t:=Rk (by rw [hI.ka,hI.kb]) (fun k hk=>by have:=one k (hI.ka▸hk);omega);have uC:Ft s C t=Ft s B t:=Rk (by rw [hI.kc,hI.kb]) (fun k hk=>by have:=one k (hI.kc▸hk);omega);have uIn:∀k∈Ft s B t,k∈l:=fun k hk=>by
  have:=(T3.1 hk).1;rw [(Jf B).2.1.mem_iff,hI.kb] at this;exact this
 have none:Dy (pix s) ((Ft s A t).map (Cg F s A))=[]:=by
  refine Rr fun p hpp a ha b hb=>?_;have val:∀a∈(Ft s A t).map (Cg F s A),(gVl a p).Lo≤rainP p2 p∧rainP p2 p≤(gVl a p).Hi:=fun a ha=>by
   obtain ⟨k,hk,rfl⟩:=List.mem_map.1 ha;rw [uA] at hk;obtain ⟨va,vb,vc,e1,_,_,l1,_,_,e4,_⟩:=(hI.t k (uIn k hk)).ex;have e5:(Cg F s A k).vals=va:=by show ((kl A.kept k)[0]?).getD []=va;rw [e1];rfl
   unfold gVl;rw [e5,List.getElem?_eq_getElem (by omega)];exact e4 p _ (List.getElem?_eq_getElem (by omega))
  have x1:=val a ha;have x2:=val b hb;unfold At;rw [dF (by omega),dF (by omega)];rfl
 have sub:∀c∈Dy (pix s) ((Ft s C t).map (Cg F s C)),c∈Dy (pix s) ((Ft s B t).map (Cg F s B)):=by
  rw [uC];refine Rt fun k hk=>⟨rfl,rfl,fun p hpp=>?_⟩;obtain ⟨va,vb,vc,_,e2,e3,_,l2,l3,_,e5⟩:=(hI.t k (uIn k hk)).ex;have d1:(Cg F s B k).vals=vb:=by show ((kl B.kept k)[0]?).getD []=vb;rw [e2];rfl
  have d2:(Cg F s C k).vals=vc:=by show ((kl C.kept k)[0]?).getD []=vc;rw [e3];rfl
  unfold gVl;rw [d1,d2,List.getElem?_eq_getElem (show p<vb.length by omega),List.getElem?_eq_getElem (show p<vc.length by omega)];exact e5 p _ _ (List.getElem?_eq_getElem _) (List.getElem?_eq_getElem _)
 have sB:(Dy (pix s) ((Ft s B t).map (Cg F s B))).length≤16*144∧(Dy (pix s) ((Ft s C t).map (Cg F s C))).length≤16*144:=by
  have g:∀N:mosaic_Node,NI F s N→tot N.kept≤12→(Dy (pix s) ((Ft s N t).map (Cg F s N))).length≤16*144:=fun N hN hT=>by
   have h1:((Ft s N t).map (Cg F s N)).length≤12:=by
    rw [List.length_map];exact Nat.le_trans (List.length_filter_le _ _) (Nat.le_trans hN.small hT)
   exact Nat.le_trans (Rq _ _ 12 h1) (Nat.mul_le_mul_right _ hP)
  exact ⟨g B hI.b tB,g C hI.c tC⟩
 unfold Cq;rw [show (mosaic_Node.mk (mosaic_Spec.mk (api_Grid.mk A.spec.Grid.X A.spec.Grid.Y A.spec.Grid.Size A.spec.Grid.Wide A.spec.Grid.High) (api_Span.mk A.spec.Earth.Lo A.spec.Earth.Hi) A.spec.Radars A.spec.Age) A.radars A.horizon A.kept A.count A.looks)=A from rfl,show (mosaic_Node.mk (mosaic_Spec.mk (api_Grid.mk B.spec.Grid.X B.spec.Grid.Y B.spec.Grid.Size B.spec.Grid.Wide B.spec.Grid.High) (api_Span.mk B.spec.Earth.Lo B.spec.Earth.Hi) B.spec.Radars B.spec.Age) B.radars B.horizon B.kept B.count B.looks)=B from rfl,show (mosaic_Node.mk (mosaic_Spec.mk (api_Grid.mk C.spec.Grid.X C.spec.Grid.Y C.spec.Grid.Size C.spec.Grid.Wide C.spec.Grid.High) (api_Span.mk C.spec.Earth.Lo C.spec.Earth.Hi) C.spec.Radars C.spec.Age) C.radars C.horizon C.kept C.count C.looks)=C from rfl];rw [ckb (by omega),Ez (by omega),←ht',eA,sbd,eB,sbd,eC,sbd,none];rw [Bp (c:=bif (bif (bif ((0:Int) != 0) then true else ((0:Int) != 0)) then true else ((0:Int) != 0)) then true else (((([]:List mosaic_Clash).length:Nat):Int) != 0)) rfl];exact U5 (Y:=(Dy (pix s) ((Ft s B t).map (Cg F s B)),0,LB)) (Z:=(Dy (pix s) ((Ft s C t).map (Cg F s C)),0,LC)) (by have:=sB.1;show (Dy (pix s) ((Ft s B t).map (Cg F s B))).length<F;omega) (by have:=sB.1;show (Dy (pix s) ((Ft s B t).map (Cg F s B))).length≤100000;omega) (by have:=sB.2;show (Dy (pix s) ((Ft s C t).map (Cg F s C))).length≤100000;omega) sub F 0 (Nat.zero_le _) (by have:=sB.2;show (Dy (pix s) ((Ft s C t).map (Cg F s C))).length-0<F;omega)
theorem Ta {F:Nat} {s:mosaic_Spec} {p1:List law11_Post} {p2:List Int} {p3 p4:Int} (hF:3000≤F) (hP:pix s≤16) (h:RG F s) (hp1:∀p∈p1,Kg p) (hl:p1.length≤12) (hp2:∀y∈p2,0≤y∧y≤65535) (hp3:0≤p3∧p3≤65535) (hp4:0≤p4∧p4≤255) :
  ∀(n i:Nat) (A B C:mosaic_Node) (l:List mosaic_Key),i≤p1.length→p1.length-i<n→Inv3 F s p2 A B C l→l.length≤i→C6 F p1 p2 p3 p4 s n C.spec.Grid.X C.spec.Grid.Y C.horizon C.count C.spec.Grid.Size C.spec.Grid.Wide C.spec.Grid.High C.spec.Earth.Lo C.spec.Earth.Hi C.spec.Radars C.spec.Age A.spec.Grid.X A.spec.Grid.Y A.horizon A.count A.spec.Grid.Size A.spec.Grid.Wide A.spec.Grid.High A.spec.Earth.Lo A.spec.Earth.Hi A.spec.Radars A.spec.Age B.spec.Grid.X B.spec.Grid.Y B.horizon B.count B.spec.Grid.Size B.spec.Grid.Wide B.spec.Grid.High B.spec.Earth.Lo B.spec.Earth.Hi B.spec.Radars B.spec.Age C.radars C.kept C.looks A.radars A.kept A.looks B.radars B.kept B.looks l (i:Int)=Be F:=by
 intro n
 induction n with
 | zero=>intro i A B C l _ h;omega
 | succ n ih =>
  intro i A B C l hi hn hI hli;rw [C6];unfold Dl
  by_cases hc:i<p1.length
  ·have hpo:=hp1 _ (List.getElem_mem hc);obtain ⟨hm,ht3,htm⟩:=Xk h hpo;rw [D0 (dT (by omega)),F6 i p1[i] rfl (List.getElem?_eq_getElem hc),Wd (by omega) h hpo,sbd];refine (W6 (by omega) F 0 false (Nat.zero_le _) (by omega)).trans ?_;rw [List.drop_zero,Bool.false_or];unfold Cr;have q1:i+1≤p1.length:=hc;have q2:p1.length-(i+1)<n:=by omega
   cases hmet:l.any fun k=>decide (k=(Fi p1[i] s).Key) with
   | true =>
    rw [cond_true];unfold C4;rw [ckb (by omega)];exact ih (i+1) A B C l q1 q2 hI (by omega)
   | false =>
    have hnew:(Fi p1[i] s).Key∉l:=fun hk=>by
     rw [List.any_eq_false] at hmet;exact hmet _ hk (dT rfl)
    have one:∀k∈l,(kl A.kept k).length=1∧(kl B.kept k).length=1∧(kl C.kept k).length=1:=fun k hk=>by
     obtain ⟨va,vb,vc,e1,e2,e3,-⟩:=(hI.t k hk).ex;rw [e1,e2,e3];exact ⟨rfl,rfl,rfl⟩
    have tA:tot A.kept≤12:=by
     rw [Kv hI.a.nd (fun k hk=>(one k (hI.ka▸hk)).1)];have:=congrArg List.length hI.ka;rw [List.length_map] at this;omega
    have tB:tot B.kept≤12:=by
     rw [Kv hI.b.nd (fun k hk=>(one k (hI.kb▸hk)).2.1)];have:=congrArg List.length hI.kb;rw [List.length_map] at this;omega
    have tC:tot C.kept≤12:=by
     rw [Kv hI.c.nd (fun k hk=>(one k (hI.kc▸hk)).2.2)];have:=congrArg List.length hI.kc;rw [List.length_map] at this;omega
    obtain ⟨hA0,hB0,hC0⟩:=hI.h;have cA:=hI.a.count;have cB:=hI.b.count;have cC:=hI.c.count;have okT:okM s (Km p1[i] p2 (Fi p1[i] s)):=by
     refine ⟨hm.key,by simp [Km,hm.len],?_⟩;intro v hv;obtain ⟨q,_,rfl⟩:=List.mem_map.1 hv;have hr:=No hp2 q;have hpo':=hpo;obtain ⟨_,⟨a1,a2⟩,_,_,⟨a3,a4⟩⟩:=hpo';have:=Mz (rainP p2 q-p1[i].Wide);unfold Ns;dsimp only;omega
    have valB:∀v∈(Fi p1[i] s).Vals,v.Hi≤70000:=by
     intro v hv;obtain ⟨q,_,rfl⟩:=List.mem_map.1 (show v∈(List.range (pix s)).map fun i_1=>(⟨K0 p1[i] i_1,K0 p1[i] i_1+p1[i].Wide⟩:api_Span) from hv);have:=Qo hpo q;have hw:=hpo.2.2.2.2;dsimp only;omega
    have okW:okM s (Kn p4 (Fi p1[i] s)):=by
     refine ⟨hm.key,by simp [Kn,hm.len],?_⟩;intro v hv;obtain ⟨w,hw,rfl⟩:=List.mem_map.1 hv;have h1:=hm.vals w hw;have h2:=valB w hw;have:=Mz (w.Lo-p4);unfold Nt;dsimp only;omega
    obtain ⟨b1,oB,nB⟩:=M9 (by omega) h.gs hI.b hm hB0 (by omega) (by rw [hI.kb];exact hnew);obtain ⟨b2,oC,nC⟩:=M9 (by omega) h.gs hI.c okW hC0 (by omega) (by rw [hI.kc];exact hnew);obtain ⟨b3,oA,nA⟩:=M9 (by omega) h.gs hI.a okT hA0 (by omega) (by rw [hI.ka];exact hnew);have hml:=hm.len;have hsm:=h.small;rw [cond_false,Ln (by simp;omega) (by decide)];rw [show (mosaic_Node.mk (mosaic_Spec.mk (api_Grid.mk B.spec.Grid.X B.spec.Grid.Y B.spec.Grid.Size B.spec.Grid.Wide B.spec.Grid.High) (api_Span.mk B.spec.Earth.Lo B.spec.Earth.Hi) B.spec.Radars B.spec.Age) B.radars B.horizon B.kept B.count B.looks)=B from rfl,oB,sbd];refine (Ws (q:=i) (po:=p1[i]) rfl (List.getElem?_eq_getElem hc) hpo hp4 hp2 hm.vals (by omega) F 0 [] [] (Nat.zero_le _) (by omega) rfl rfl).trans ?_;rw [List.drop_zero,List.drop_zero,List.nil_append,List.nil_append];unfold Bs;rw [show (mosaic_Node.mk (mosaic_Spec.mk (api_Grid.mk C.spec.Grid.X C.spec.Grid.Y C.spec.Grid.Size C.spec.Grid.Wide C.spec.Grid.High) (api_Span.mk C.spec.Earth.Lo C.spec.Earth.Hi) C.spec.Radars C.spec.Age) C.radars C.horizon C.kept C.count C.looks)=C from rfl,show (mosaic_Node.mk (mosaic_Spec.mk (api_Grid.mk A.spec.Grid.X A.spec.Grid.Y A.spec.Grid.Size A.spec.Grid.Wide A.spec.Grid.High) (api_Span.mk A.spec.Earth.Lo A.spec.Earth.Hi) A.spec.Radars A.spec.Age) A.radars A.horizon A.kept A.count A.looks)=A from rfl];rw [show mosaic_Message.mk (Fi p1[i] s).Key ((Fi p1[i] s).Vals.map (Nt p4))=Kn p4 (Fi p1[i] s) from rfl,oC,sbd];rw [show mosaic_Message.mk (Fi p1[i] s).Key ((List.range (Fi p1[i] s).Vals.length).map (Ns p1[i] p2))=Km p1[i] p2 (Fi p1[i] s) from rfl,oA,sbd];unfold C4;rw [ckb (by omega)];exact ih (i+1) (L0 A (Km p1[i] p2 (Fi p1[i] s)) 0) (L0 B (Fi p1[i] s) 0) (L0 C (Kn p4 (Fi p1[i] s)) 0) (l++[(Fi p1[i] s).Key]) q1 q2 (hI.put hnew hml hpo hp4.1 hp2 (fun v hv=>(hm.vals v hv).1) nA nB nC) (by simp;omega)
  ·rw [Bp (dF (by omega))];exact Rp (by omega) hP h hI (by omega) hp3
theorem T4:H0 3000=some true:=by kernel_rfl
theorem N3 (n:law11_Net) (l:List law11_Post) (p2:List Int) (p3 p4:Int) (hn:Pj n) (hl:∀p∈l,Kg p) (hp2:∀y∈p2,0≤y∧y≤65535) (hp3:0≤p3∧p3≤65535) (hp4:0≤p4∧p4≤255):Di 3000 n l p2 p3 p4=some true:=by
 have hw:Be 3000=some true:=by unfold Be;rw [T4];rfl
 have h:=Wm (F:=3000) hn;have hP:pix (G9 n)≤16:=by
  have h':=hn;obtain ⟨hw,hh,_,_,_⟩:=h';have t1:=tm hw.1 (y:=4) (by omega);have t2:=tm hh.1 (y:=4) (by omega);have hm:=Hl (x:=1+n.Wide.tmod 4) (y:=1+n.High.tmod 4) (A:=4) (B:=4) (by omega) (by omega);unfold pix G9;dsimp only;omega
 unfold Di
 by_cases hc:l.length≤12
 ·rw [Bp (dF (by omega))];have e:Dz 3000 (law11_Net.mk n.Wide n.High ((law11_Station.mk n.Stations.1.X n.Stations.1.Y n.Stations.1.Z n.Stations.1.Rose n.Stations.1.Gates n.Stations.1.Width n.Stations.1.Lo n.Stations.1.Hi),(law11_Station.mk n.Stations.2.1.X n.Stations.2.1.Y n.Stations.2.1.Z n.Stations.2.1.Rose n.Stations.2.1.Gates n.Stations.2.1.Width n.Stations.2.1.Lo n.Stations.2.1.Hi),(law11_Station.mk n.Stations.2.2.X n.Stations.2.2.Y n.Stations.2.2.Z n.Stations.2.2.Rose n.Stations.2.2.Gates n.Stations.2.2.Width n.Stations.2.2.Lo n.Stations.2.2.Hi)) n.Count n.Age)=some (G9 n):=W5 (by omega) hn;have hN:=X6 (F:=3000) (by omega) h;rw [e,sbd,hN,sbd];have hI:Inv3 3000 (G9 n) p2 (K9 (G9 n)) (K9 (G9 n)) (K9 (G9 n)) []:=⟨Ma,Ma,Ma,⟨rfl,rfl,rfl⟩,rfl,rfl,rfl,fun k hk=>by cases hk⟩
  have:=Ta (F:=3000) (p1:=l) (p2:=p2) (p3:=p3) (p4:=p4) (by omega) hP h hl hc hp2 hp3 hp4 3000 0 (K9 (G9 n)) (K9 (G9 n)) (K9 (G9 n)) [] (Nat.zero_le _) (by omega) hI (Nat.le_refl _);refine Eq.trans ?_ (this.trans hw);rfl
 ·rw [D0 (dT (by omega)),T4];rfl
end Go.Proofs.Ytkbjbnkkfifbmaa
