import Derived.Test.YtkbjbnkkfifbmaaGreatL5WkD
set_option linter.unusedVariables false
set_option linter.unusedSimpArgs false
set_option linter.unusedSectionVars false
namespace Go.Proofs.YtkbjbnkkfifbmaaGreat
open Go Go.RowKit Go.Eng
set_option maxRecDepth 10000
set_option linter.unusedVariables false
set_option linter.unusedSimpArgs false
theorem ckb {β:Type} {x:Int} {f:Int→Option β} (h:-9000000000000000000≤x∧x≤9000000000000000000):(ck x).bind f=f x:=by
 unfold ck;rw [if_pos (by omega)];rfl
theorem gdT {α:Type} {g:Bool} {o:Option α} {d:α} (h:g=true):gd g o d=o:=by subst h;rfl
theorem gdF {α:Type} {g:Bool} {o:Option α} {d:α} (h:g=false):gd g o d=some d:=by subst h;rfl
theorem Cx {α:Type} {c:Bool} {x y:α} (h:c=true):(bif c then x else y)=x:=by rw [h];rfl
theorem Bg {α:Type} {c:Bool} {x y:α} (h:c=false):(bif c then x else y)=y:=by rw [h];rfl
theorem sbd {α β:Type} {x:α} {f:α→Option β}:(some x).bind f=f x:=rfl
theorem dT {p:Prop} [Decidable p] (h:p):decide p=true:=decide_eq_true h
theorem dF {p:Prop} [Decidable p] (h:¬p):decide p=false:=decide_eq_false h
theorem F1 {α β:Type} {l:List α} {i:Int} {f:α→Option β} (n:Nat) (x:α) (hi:i=(n:Int)) (h:l[n]? = some x):(Bn l i).bind f=f x:=by
 subst hi;unfold Bn;rw [if_pos (by omega),show ((n:Int)).toNat=n by omega,h];rfl
theorem Mp {α β:Type} {l k:List α} {B:Nat} {f:List α→Option β} (h:(l.length+k.length)*B≤140737488355328) (hB:1≤B):(apd B l k).bind f=f (l++k):=by
 unfold apd;have:l.length+k.length≤(l.length+k.length)*B:=Nat.le_mul_of_pos_right _ hB;rw [if_pos ⟨h,by omega⟩];rfl
theorem A16 {x:Int} (h:-9000000000000000000≤x∧x≤9000000000000000000):IntKind.i64.wrap x=x:=by rw [IntKind.wrap_i64];omega
theorem R9 {x y A B:Int} (hx:-A≤x∧x≤A) (hy:-B≤y∧y≤B):-(A*B)≤x*y∧x*y≤A*B:=by
 have h1:(x*y).natAbs≤A.natAbs*B.natAbs:=by rw [Int.natAbs_mul];exact Nat.mul_le_mul (by omega) (by omega)
 have h2:0≤A*B:=Int.mul_nonneg (by omega) (by omega);have h3:(A*B).natAbs=A.natAbs*B.natAbs:=Int.natAbs_mul A B;omega
theorem Ht {x y A B:Int} (hx:0≤x∧x≤A) (hy:0≤y∧y≤B):0≤x*y∧x*y≤A*B :=
 ⟨Int.mul_nonneg hx.1 hy.1,(R9 (A:=A) (B:=B) ⟨by omega,hx.2⟩ ⟨by omega,hy.2⟩).2⟩
theorem Wl {β:Type} {x y:Int} {f:Int→Option β} (hx:0≤x) (hx2:x≤9000000000000000000) (hy:0<y):(Kp x y).bind f=f (x/y):=by
 unfold Kp;rw [if_neg (by omega),Int.tdiv_eq_ediv_of_nonneg hx,ckb];have h1:0≤x/y:=Int.ediv_nonneg hx (by omega);have h2:x/y≤x:=Int.ediv_le_self _ hx;omega
structure VS (s:api_Site):Prop where
 x:-1048576≤s.X∧s.X≤1048576
 y:-1048576≤s.Y∧s.Y≤1048576
 z:0≤s.Z∧s.Z≤20000
 rose:1≤s.Rose∧s.Rose≤90
 gates:1≤s.Gates∧s.Gates≤200
 step:50≤s.Step∧s.Step≤2000
 width:0≤s.Width∧s.Width≤8
structure VG (g:api_Grid):Prop where
 x:-1048576≤g.X∧g.X≤1048576
 y:-1048576≤g.Y∧g.Y≤1048576
 size:1≤g.Size∧g.Size≤10000
 wide:1≤g.Wide∧g.Wide≤64
 high:1≤g.High∧g.High≤64
theorem D9 {n a b:Int} (h:a≤n∧n≤b):A6 n a b=true:=by unfold A6;rw [dT h.1,dT h.2];rfl
theorem Lx {g:api_Grid} (h:VG g):B5 g=0:=by
 unfold B5 Bw;rw [D9 h.x,D9 h.y,D9 h.size,D9 h.wide,D9 h.high];rfl
theorem Ql {F:Nat} {s:api_Site} (h:VS s) (hn:Jd F s.Name=some true):beam_CheckSite F s=some 0:=by
 unfold beam_CheckSite;rw [hn,sbd,D9 h.x,D9 h.y,D9 h.z];simp only [Bool.not_true,cond_false];unfold Ct Cb;rw [D9 h.rose,D9 h.gates,D9 h.step,D9 h.width];rfl
def slt (t:Int):beam_slant:=⟨262144-t*t,1024*t,262144+t*t⟩
theorem sqB {t:Int} (h:-264≤t∧t≤264):0≤t*t∧t*t≤69696:=by
 have h1:=R9 (A:=264) (B:=264) h h;have h2:0≤t*t:=by
  rcases Int.le_total 0 t with h|h
  ·exact Int.mul_nonneg h h
  ·exact Int.mul_nonneg_of_nonpos_of_nonpos h h
 exact ⟨h2,by omega⟩
theorem Hp {F:Nat} {t:Int} (h:-264≤t∧t≤264):D0 F t=some (slt t):=by
 have h1:=sqB h;unfold D0;rw [ckb (by omega),ckb (by omega),ckb (by omega),ckb (by omega),ckb (by omega)];rfl
theorem Q0 {F:Nat} {s:api_Site} {t j:Int} (hs:VS s) (ht:0≤t∧t≤256) (hj:0≤j∧j≤200):∃b,F5 F j s (slt t)=some b∧0≤b∧b≤400000:=by
 have h1:=sqB (t:=t) (by omega);have h2:=hs.step;have h3:=Ht (x:=j) (y:=s.Step) (A:=200) (B:=2000) hj (by omega);have h4:=Ht (x:=j*s.Step) (y:=262144-t*t) (A:=400000) (B:=262144) (by omega) (by omega);refine ⟨(j*s.Step*(262144-t*t))/(262144+t*t),?_,Int.ediv_nonneg (by omega) (by omega),?_⟩
 ·unfold F5 slt;dsimp only;rw [ckb (by omega),ckb (by omega),Wl (by omega) (by omega) (by omega)]
 ·refine Int.ediv_le_of_le_mul (by omega) ?_;have h5:j*s.Step*(262144-t*t)≤400000*(262144-t*t):=Int.mul_le_mul_of_nonneg_right (by omega) (by omega);omega
theorem A0h {F:Nat} {s:api_Site} {t w:Int} (hs:VS s) (ht:0≤t∧t≤256):∀(n:Nat) (lo hi:Int),0≤lo→lo<hi→hi≤s.Gates→hi-lo≤n→∃j,Fh F s w (slt t) n lo hi=some j∧0≤j∧j<s.Gates:=by
 intro n;have hg:=hs.gates
 induction n with
 | zero=>intro lo hi _ _ _ h;omega
 | succ n ih =>
  intro lo hi h0 h1 h2 h3;unfold Fh Ha;rw [ckb (by omega)]
  by_cases hc:hi-lo>1
  ·rw [Cx (dT hc),ckb (by omega),Wl (by omega) (by omega) (by omega)];obtain ⟨b,hb,b0,b1⟩:=Q0 (F:=F) (t:=t) (j:=(lo+hi)/2) hs ht (by omega);have hbb:=Ht (x:=b) (y:=b) ⟨b0,b1⟩ ⟨b0,b1⟩;rw [hb,sbd,sbd,ckb (by omega)]
   by_cases hw:b*b≤w
   ·rw [Cx (dT hw)];exact ih _ _ (by omega) (by omega) h2 (by omega)
   ·rw [Bg (dF hw)];exact ih _ _ h0 (by omega) (by omega) (by omega)
  ·rw [Bg (dF hc)];exact ⟨lo,rfl,h0,by omega⟩
theorem Xc {F:Nat} {s:api_Site} {t w:Int} (hF:200≤F) (hs:VS s) (ht:0≤t∧t≤256):∃j,Jf F s t w=some j∧j<s.Gates∧-1≤j:=by
 have hg:=hs.gates;obtain ⟨b,hb,b0,b1⟩:=Q0 (F:=F) (t:=t) (j:=s.Gates) hs ht (by omega);have hbb:=Ht (x:=b) (y:=b) ⟨b0,b1⟩ ⟨b0,b1⟩;unfold Jf;rw [Hp (by omega),sbd,hb,sbd,ckb (by omega)]
 by_cases hw:w≥b*b
 ·rw [Cx (dT hw)];exact ⟨-1,rfl,by omega,by omega⟩
 ·rw [Bg (dF hw)];obtain ⟨j,hj,j0,j1⟩:=A0h (F:=F) (w:=w) hs ht F 0 s.Gates (by omega) (by omega) (by omega) (by omega);exact ⟨j,hj,j1,by omega⟩
theorem Qy {F:Nat} {r a:Int} (hr:1≤r∧r≤90) (ha:0≤a∧a<r):F4 F r a=some ⟨2*r*a,r*r-a*a,r*r+a*a⟩:=by
 have h1:=Ht (x:=r) (y:=r) (A:=90) (B:=90) (by omega) (by omega);have h2:=Ht (x:=a) (y:=a) (A:=90) (B:=90) (by omega) (by omega);have h3:=Ht (x:=2*r) (y:=a) (A:=180) (B:=90) (by omega) (by omega);have e1:D3 a r=some a:=by unfold D3;rw [if_neg (by omega),Int.tmod_eq_of_lt ha.1 ha.2]
 have e2:Kp a r=some 0:=by unfold Kp;rw [if_neg (by omega),Int.tdiv_eq_zero_of_lt ha.1 ha.2];rfl
 unfold F4;rw [e1,sbd,ckb (by omega),ckb (by omega),ckb (by omega),ckb (by omega),ckb (by omega),ckb (by omega),ckb (by omega),ckb (by omega),e2,sbd];rfl
theorem A0u {F:Nat} {r x y q:Int} (hr:1≤r∧r≤90) (hx:-10000000≤x∧x≤10000000) (hy:-10000000≤y∧y≤10000000) (hq:0≤q∧q≤4):∀(n:Nat) (lo hi:Int),0≤lo→lo<hi→hi≤r→hi-lo≤n→∃j,Fx F r x y q n lo hi=some j∧0≤j∧j≤450:=by
 intro n
 induction n with
 | zero=>intro lo hi _ _ _ h;omega
 | succ n ih =>
  intro lo hi h0 h1 h2 h3;unfold Fx Hv;rw [ckb (by omega)]
  by_cases hc:hi-lo>1
  ·rw [Cx (dT hc),ckb (by omega),Wl (by omega) (by omega) (by omega),Qy hr (by omega),sbd];obtain ⟨m,hm⟩:∃m,m=(lo+hi)/2:=⟨_,rfl⟩;rw [←hm];have k1:=Ht (x:=r) (y:=r) (A:=90) (B:=90) (by omega) (by omega);have k2:=Ht (x:=m) (y:=m) (A:=90) (B:=90) (by omega) (by omega);have k3:=Ht (x:=2*r) (y:=m) (A:=180) (B:=90) (by omega) (by omega);have k4:=R9 (x:=r*r-m*m) (y:=x) (A:=16200) (B:=10000000) (by omega) hx;have k5:=R9 (x:=2*r*m) (y:=y) (A:=16200) (B:=10000000) (by omega) hy;unfold F3;dsimp only;rw [ckb (by omega),ckb (by omega),sbd]
   cases decide ((r*r-m*m)*x≥2*r*m*y) with
   | true=>exact ih _ _ (by omega) (by omega) h2 (by omega)
   | false=>exact ih _ _ h0 (by omega) (by omega) (by omega)
  ·rw [Bg (dF hc)];have k1:=Ht (x:=q) (y:=r) (A:=4) (B:=90) hq (by omega);unfold J0;rw [ckb (by omega),ckb (by omega)];exact ⟨_,rfl,by omega,by omega⟩
theorem Zv {F:Nat} {r x y:Int} (hF:100≤F) (hr:1≤r∧r≤90) (hx:-10000000≤x∧x≤10000000) (hy:-10000000≤y∧y≤10000000) (h0:¬(x=0∧y=0)):∃j,Kg F r x y=some j∧0≤j∧j≤450:=by
 have step:∀(n:Nat) (x y q:Int),-10000000≤x∧x≤10000000→-10000000≤y∧y≤10000000→0≤q∧q≤4 →
   ((x<0∨y≤0)∧Df F r (n+1) x y q=Df F r n (-y) x (q+1))∨(¬(x<0∨y≤0)∧∃j,Df F r (n+1) x y q=some j∧0≤j∧j≤450):=by
  intro n x y q hx hy hq
  by_cases hc:x<0∨y≤0
  ·refine .inl ⟨hc,?_⟩;rw [Df];unfold Gy;have e:(bif (decide (x<0)) then true else (decide (y≤0)))=true:=by
    rcases hc with h|h
    ·rw [dT h];rfl
    ·rw [dT h];cases decide (x<0)<;>rfl
   rw [e,cond_true,ckb (by omega),A16 (by omega),show 0-y=-y by omega]
  ·refine .inr ⟨hc,?_⟩;rw [Df];unfold Gy Hw;have e:(bif (decide (x<0)) then true else (decide (y≤0)))=false:=by rw [dF (by omega),dF (by omega)];rfl
   rw [e,cond_false];exact A0u hr hx hy hq F 0 r (by omega) (by omega) (by omega) (by omega)
 obtain ⟨n,rfl⟩:∃n,F=n+4:=⟨F-4,by omega⟩;unfold Kg;rcases step (n+3) x y 0 hx hy (by omega) with ⟨c1,e1⟩|⟨_,h⟩
 ·rw [e1];rcases step (n+2) (-y) x (0+1) (by omega) hx (by omega) with ⟨c2,e2⟩|⟨_,h⟩
  ·rw [e2];rcases step (n+1) (-x) (-y) (0+1+1) (by omega) (by omega) (by omega) with ⟨c3,e3⟩|⟨_,h⟩
   ·rw [e3];rcases step n (- -y) (-x) (0+1+1+1) (by omega) (by omega) (by omega) with ⟨c4,e4⟩|⟨_,h⟩
    ·omega
    ·exact h
   ·exact h
  ·exact h
 ·exact h
theorem X9 {F:Nat} {s:api_Site} {t x y:Int} (hF:200≤F) (hs:VS s) (ht:0≤t∧t≤256) (hx:-3000000≤x∧x≤3000000) (hy:-3000000≤y∧y≤3000000) :
  ∃a j b,Je F s t x y=some (a,j,b)∧(0≤a∧a≤450)∧(0≤j∧j<s.Gates):=by
 have h1:=hs.x;have h2:=hs.y;have hg:=hs.gates;unfold Je;rw [ckb (by omega),ckb (by omega)]
 by_cases hc:x-s.X=0∧y-s.Y=0
 ·rw [hc.1,hc.2];exact ⟨0,0,true,rfl,by omega,by omega⟩
 ·have e:(bif (x-s.X==0) then (y-s.Y==0) else false)=false:=by
   cases h:(x-s.X==0) with
   | false=>rfl
   | true =>
    cases h':(y-s.Y==0) with
    | false=>rfl
    | true=>exact absurd ⟨by simpa using h,by simpa using h'⟩ hc
  have k1:=R9 (x:=x-s.X) (y:=x-s.X) (A:=5000000) (B:=5000000) (by omega) (by omega);have k2:=R9 (x:=y-s.Y) (y:=y-s.Y) (A:=5000000) (B:=5000000) (by omega) (by omega);rw [Bg e,ckb (by omega),ckb (by omega),ckb (by omega)];obtain ⟨j,hj,j1,j0⟩:=Xc (F:=F) (t:=t) (w:=(x-s.X)*(x-s.X)+(y-s.Y)*(y-s.Y)) hF hs ht;rw [hj,sbd]
  by_cases hn:j<0
  ·rw [Cx (dT hn)];exact ⟨0,0,false,rfl,by omega,by omega⟩
  ·rw [Bg (dF hn)];obtain ⟨a,ha,a0,a1⟩:=Zv (F:=F) (r:=s.Rose) (x:=x-s.X) (y:=y-s.Y) (by omega) hs.rose (by omega) (by omega) hc;rw [ha,sbd];exact ⟨a,j,true,rfl,by omega,by omega⟩
theorem Y9 {F:Nat} {s:api_Site} {t:Int} {g:api_Grid} {row:Int} (hF:200≤F) (hs:VS s) (hg:VG g) (ht:0≤t∧t≤256) (hr:0≤row∧row<64) (k2:List Int→Int→Option (List Int×Int)) :
  ∀(n:Nat) (m:Nat) (l:List Int) (c:Int),0≤c→c+m=g.Wide→m<n→l.length+m≤10000→∃l',Ee F s t g row k2 n l c=k2 l' (row+1)∧l'.length=l.length+m:=by
 have hw:=hg.wide;have hz:=hg.size;have hX:=hg.x;have hY:=hg.y;intro n
 induction n with
 | zero=>intro m l c _ _ h;omega
 | succ n ih =>
  intro m l c h0 h1 h2 h3;rw [Ee];unfold H8
  by_cases hc:c<g.Wide
  ·have k1:=Ht (x:=c) (y:=g.Size) (A:=64) (B:=10000) (by omega) (by omega);have k2':=Ht (x:=row) (y:=g.Size) (A:=64) (B:=10000) (by omega) (by omega);rw [Cx (dT hc),ckb (by omega),ckb (by omega),Wl (by omega) (by omega) (by omega),ckb (by omega),ckb (by omega),ckb (by omega),Wl (by omega) (by omega) (by omega),ckb (by omega)];obtain ⟨a,j,b,hf,ha,hj⟩:=X9 (F:=F) (t:=t) (x:=g.X+c*g.Size+g.Size/2) (y:=g.Y+row*g.Size+g.Size/2) hF hs ht (by omega) (by omega);rw [hf,sbd];have hgt:=hs.gates;have k3:=Ht (x:=a) (y:=s.Gates) (A:=450) (B:=200) ha (by omega);have fin:∀v:Int,∃l',Fg l c (Ee F s t g row k2 n) v=k2 l' (row+1)∧l'.length=l.length+m:=by
    intro v;unfold Fg;rw [Mp (by simp;omega) (by decide),ckb (by omega)];obtain ⟨l',e,h⟩:=ih (m-1) (l++[v]) (c+1) (by omega) (by omega) (by omega) (by simp;omega);exact ⟨l',e,by rw [h];simp;omega⟩
   cases b with
   | true =>
    simp only [cond_true];rw [ckb (by omega),ckb (by omega)];exact fin _
   | false=>exact fin _
  ·rw [Bg (dF hc)];unfold H9;rw [ckb (by omega)];exact ⟨l,rfl,by omega⟩
theorem Y8 {F:Nat} {s:api_Site} {t:Int} {g:api_Grid} (hF:200≤F) (hs:VS s) (hg:VG g) (ht:0≤t∧t≤256) :
  ∀(n:Nat) (m:Nat) (l:List Int) (r:Int),0≤r→r+m=g.High→m<n→l.length+m*g.Wide.toNat≤5000→∃l',Ed F s t g n l r=some (l',0)∧l'.length=l.length+m*g.Wide.toNat:=by
 have hw:=hg.wide;have hh:=hg.high;intro n
 induction n with
 | zero=>intro m l c _ _ h;omega
 | succ n ih =>
  intro m l r h0 h1 h2 h3;rw [Ed];unfold H7
  by_cases hc:r<g.High
  ·rw [Cx (dT hc)];obtain ⟨l',e,hl⟩:=Y9 (F:=F) (s:=s) (t:=t) (g:=g) (row:=r) hF hs hg ht (by omega) (Ed F s t g n) F g.Wide.toNat l 0 (by omega) (by omega) (by omega) (by omega);rw [e];obtain ⟨k,rfl⟩:∃k,m=k+1:=⟨m-1,by omega⟩;rw [Nat.add_mul] at h3 ⊢;obtain ⟨l2,e2,hl2⟩:=ih k l' (r+1) (by omega) (by omega) (by omega) (by omega);exact ⟨l2,e2,by omega⟩
  ·rw [Bg (dF hc)];have:m=0:=by omega
   subst this;exact ⟨l,rfl,by simp⟩
theorem X2 {F:Nat} {s:api_Site} {t:Int} {g:api_Grid} (hF:200≤F) (hn:beam_CheckSite F s=some 0) (hs:VS s) (hg:VG g) (ht:0≤t∧t≤256) :
  ∃l,Gf F s t g=some (l,0)∧l.length=(g.Wide*g.High).toNat:=by
 have hw:=hg.wide;have hh:=hg.high;have k1:=Ht (x:=g.Wide) (y:=g.High) (A:=64) (B:=64) (by omega) (by omega);have k2:((g.High.toNat*g.Wide.toNat:Nat):Int)=g.Wide*g.High:=by
  rw [Int.natCast_mul,Int.toNat_of_nonneg (by omega),Int.toNat_of_nonneg (by omega),Int.mul_comm]
 unfold Gf;rw [hn,sbd,Lx hg,D9 ht];simp only [bne_self_eq_false,cond_false,Bool.not_true];rw [ckb (by omega),show mk0 8 (g.Wide*g.High)=some (g.Wide*g.High).toNat from by unfold mk0;rw [if_pos (by omega)],sbd];obtain ⟨l,e,hl⟩:=Y8 (F:=F) (t:=t) hF hs hg ht F g.High.toNat [] 0 (by omega) (by omega) (by omega) (by simp;omega);exact ⟨l,e,by rw [hl];simp;omega⟩
end Go.Proofs.YtkbjbnkkfifbmaaGreat
namespace Go.Proofs.YtkbjbnkkfifbmaaGreat
open Go Go.RowKit Go.Eng
set_option maxRecDepth 10000
set_option linter.unusedVariables false
set_option linter.unusedSimpArgs false
theorem M8 {a b f:Int} (hb:0<b) (h1:f*b≤a) (h2:a<f*b+b):a/b=f:=by
 have g1:=Int.ediv_mul_le a (show b≠0 by omega);have g2:a<a/b*b+b:=by have:=Int.lt_ediv_add_one_mul_self a hb;rw [Int.add_mul] at this;omega
 rcases Int.lt_trichotomy (a/b) f with h|h|h
 ·have:=Int.mul_le_mul_of_nonneg_right (show a/b+1≤f by omega) (show 0≤b by omega);rw [Int.add_mul] at this;omega
 ·exact h
 ·have:=Int.mul_le_mul_of_nonneg_right (show f+1≤a/b by omega) (show 0≤b by omega);rw [Int.add_mul] at this;omega
theorem Hs (a b:Int) (hb:0<b):(0≤a∧a.tdiv b=a/b)∨(a<0∧a.tdiv b=-(-a/b)):=by
 rcases Int.lt_or_le a 0 with h|h
 ·right;refine ⟨h,?_⟩;have e:a=- -a:=by omega
  have:(- -a).tdiv b=-((-a).tdiv b):=Int.neg_tdiv (-a) b;rw [e,this,Int.tdiv_eq_ediv_of_nonneg (by omega),Int.neg_neg]
 ·exact .inl ⟨h,Int.tdiv_eq_ediv_of_nonneg h⟩
theorem Qd {a b A:Int} (hb:0<b) (ha:-A≤a∧a≤A):-A≤a.tdiv b∧a.tdiv b≤A:=by
 rcases Hs a b hb with ⟨h,e⟩|⟨h,e⟩
 ·rw [e];have:=Int.ediv_le_self b h;have:=Int.ediv_nonneg h (show 0≤b by omega);omega
 ·rw [e];have:=Int.ediv_le_self b (show 0≤-a by omega);have:=Int.ediv_nonneg (show 0≤-a by omega) (show 0≤b by omega);omega
theorem Dd (a:Int) {b:Int} (hb:0<b):a/b*b≤a∧a<a/b*b+b:=by
 refine ⟨Int.ediv_mul_le a (by omega),?_⟩;have:=Int.lt_ediv_add_one_mul_self a hb;rw [Int.add_mul] at this;omega
theorem Qz {F:Nat} {a b:Int} (hb:0<b) (ha:-1000000000000000000≤a∧a≤1000000000000000000):Gg F a b=some (a/b):=by
 have hq:=Qd hb ha;have hm:-2000000000000000000≤a.tdiv b*b∧a.tdiv b*b≤2000000000000000000:=by
  rcases Hs a b hb with ⟨h,e⟩|⟨h,e⟩
  ·have:=Dd a hb;have h0:0≤a/b*b:=Int.mul_nonneg (Int.ediv_nonneg h (by omega)) (by omega);rw [e];omega
  ·have:=Dd (-a) hb;have h0:0≤-a/b*b:=Int.mul_nonneg (Int.ediv_nonneg (by omega) (by omega)) (by omega);rw [e,Int.neg_mul];omega
 unfold Gg Kp;rw [if_neg (by omega),ckb (by omega),ckb (by omega)]
 by_cases hc:a.tdiv b*b>a
 ·rw [Cx (dT hc),ckb (by omega)];rcases Hs a b hb with ⟨h,e⟩|⟨h,e⟩
  ·have:=Dd a hb;rw [e] at hc;omega
  ·have hf:=Dd (-a) hb;rw [M8 (f:=a.tdiv b-1) hb]
   ·rw [e,Int.sub_mul,Int.neg_mul];omega
   ·rw [Int.sub_mul];omega
 ·rw [Bg (dF hc),M8 (f:=a.tdiv b) hb]
  ·omega
  ·rcases Hs a b hb with ⟨h,e⟩|⟨h,e⟩
   ·have:=Dd a hb;rw [e];omega
   ·have:=Dd (-a) hb;rw [e,Int.neg_mul] at hc ⊢;omega
theorem Ws {F:Nat} {a b:Int} (hb:0<b) (ha:-1000000000000000000≤a∧a≤1000000000000000000):Jv F a b=some (-(-a/b)):=by
 have hq:=Qd hb ha;have hm:-2000000000000000000≤a.tdiv b*b∧a.tdiv b*b≤2000000000000000000:=by
  rcases Hs a b hb with ⟨h,e⟩|⟨h,e⟩
  ·have:=Dd a hb;have h0:0≤a/b*b:=Int.mul_nonneg (Int.ediv_nonneg h (by omega)) (by omega);rw [e];omega
  ·have:=Dd (-a) hb;have h0:0≤-a/b*b:=Int.mul_nonneg (Int.ediv_nonneg (by omega) (by omega)) (by omega);rw [e,Int.neg_mul];omega
 unfold Jv Kp;rw [if_neg (by omega),ckb (by omega),ckb (by omega)]
 by_cases hc:a.tdiv b*b<a
 ·rw [Cx (dT hc),ckb (by omega)];rcases Hs a b hb with ⟨h,e⟩|⟨h,e⟩
  ·have hf:=Dd a hb;rw [M8 (f:=-(a.tdiv b+1)) hb]
   ·rw [Int.neg_neg]
   ·rw [e,Int.neg_mul,Int.add_mul];omega
   ·rw [Int.neg_mul,Int.add_mul];omega
  ·have:=Dd (-a) hb;rw [e,Int.neg_mul] at hc;omega
 ·rw [Bg (dF hc),M8 (f:=-(a.tdiv b)) hb]
  ·rw [Int.neg_neg]
  ·rw [Int.neg_mul];omega
  ·rcases Hs a b hb with ⟨h,e⟩|⟨h,e⟩
   ·have:=Dd a hb;rw [e] at hc ⊢;rw [Int.neg_mul];omega
   ·have:=Dd (-a) hb;rw [e,Int.neg_neg];omega
def gLo (L t:Int):Int:=L*(262144-t*t)/(2*(262144+t*t))
def gHi (L t:Int):Int:=-(-(L*(262144-t*t))/(2*(262144+t*t)))
def loZ (L t e:Int):Int:=L*(1024*t)/(2*(262144+t*t))+gLo L t*gLo L t/(2*e)
def hiZ (L t e:Int):Int:=-(-(L*(1024*t))/(2*(262144+t*t))) + -(-(gHi L t*gHi L t)/(2*e))
theorem Hf {a b A:Int} (hb:0<b) (hA:0≤A) (ha:-(A*b)≤a∧a≤A*b):-A≤a/b∧a/b≤A:=by
 refine ⟨?_,Int.ediv_le_of_le_mul hb ha.2⟩;exact (Int.le_ediv_iff_mul_le hb).2 (by rw [Int.neg_mul];exact ha.1)
theorem gB {L t:Int} (hL:0≤L∧L≤1000000) (ht:-264≤t∧t≤264):(-1000000≤gLo L t∧gLo L t≤1000000)∧(-1000000≤gHi L t∧gHi L t≤1000000)∧(0≤L*(262144-t*t)∧L*(262144-t*t)≤1000000*262144)∧(-(1000000*270336)≤L*(1024*t)∧L*(1024*t)≤1000000*270336):=by
 have h1:=sqB ht;have h2:=Ht (x:=L) (y:=262144-t*t) (A:=1000000) (B:=262144) hL (by omega);have h3:=R9 (x:=L) (y:=1024*t) (A:=1000000) (B:=270336) (by omega) (by omega);refine ⟨Hf (by omega) (by omega) (by omega),?_,h2,h3⟩;have:=Hf (a:=-(L*(262144-t*t))) (b:=2*(262144+t*t)) (A:=1000000) (by omega) (by omega) (by omega);unfold gHi;omega
theorem Sf {F:Nat} {s:api_Site} {t g:Int} (hs:1≤s.Step∧s.Step≤2000) (hg:0≤g∧g≤200) (ht:-264≤t∧t≤264):E4 F s t g=some (gLo ((2*g+1)*s.Step) t):=by
 have h1:=sqB ht;have h0:=Ht (x:=2*g+1) (y:=s.Step) (A:=401) (B:=2000) (by omega) (by omega);have h2:=gB (L:=(2*g+1)*s.Step) (t:=t) (by omega) ht;unfold E4;rw [Hp ht,sbd];unfold slt;dsimp only;rw [ckb (by omega),ckb (by omega),ckb (by omega),ckb (by omega),ckb (by omega),Qz (by omega) (by omega)];rfl
theorem Sg {F:Nat} {s:api_Site} {t g:Int} (hs:1≤s.Step∧s.Step≤2000) (hg:0≤g∧g≤200) (ht:-264≤t∧t≤264):E5 F s t g=some (gHi ((2*g+1)*s.Step) t):=by
 have h1:=sqB ht;have h0:=Ht (x:=2*g+1) (y:=s.Step) (A:=401) (B:=2000) (by omega) (by omega);have h2:=gB (L:=(2*g+1)*s.Step) (t:=t) (by omega) ht;unfold E5;rw [Hp ht,sbd];unfold slt;dsimp only;rw [ckb (by omega),ckb (by omega),ckb (by omega),ckb (by omega),ckb (by omega),Ws (by omega) (by omega)];rfl
theorem Ti {F:Nat} {s:api_Site} {t g e:Int} (hs:1≤s.Step∧s.Step≤2000) (hz:0≤s.Z∧s.Z≤20000) (hg:0≤g∧g≤200) (ht:-264≤t∧t≤264) (he:1000000≤e∧e≤100000000):Eo F s t g e=some (s.Z+loZ ((2*g+1)*s.Step) t e):=by
 have h1:=sqB ht;have h0:=Ht (x:=2*g+1) (y:=s.Step) (A:=401) (B:=2000) (by omega) (by omega);obtain ⟨g1,_,_,g4⟩:=gB (L:=(2*g+1)*s.Step) (t:=t) (by omega) ht;have h2:=R9 (x:=gLo ((2*g+1)*s.Step) t) (y:=gLo ((2*g+1)*s.Step) t) (A:=1000000) (B:=1000000) g1 g1;have b1:=Hf (a:=(2*g+1)*s.Step*(1024*t)) (b:=2*(262144+t*t)) (A:=1000000) (by omega) (by omega) (by omega);have b2:=Hf (a:=gLo ((2*g+1)*s.Step) t*gLo ((2*g+1)*s.Step) t) (b:=2*e) (A:=1000000) (by omega) (by omega) (by omega);unfold Eo;rw [Hp ht,sbd,Sf hs hg ht,sbd];unfold slt;dsimp only;rw [ckb (by omega),ckb (by omega),ckb (by omega),ckb (by omega),ckb (by omega),ckb (by omega),ckb (by omega),Qz (by omega) (by omega),sbd,ckb (by omega),Qz (by omega) (by omega),sbd,ckb (by omega),Int.add_assoc];rfl
theorem Tj {F:Nat} {s:api_Site} {t g e:Int} (hs:1≤s.Step∧s.Step≤2000) (hz:0≤s.Z∧s.Z≤20000) (hg:0≤g∧g≤200) (ht:-264≤t∧t≤264) (he:1000000≤e∧e≤100000000):Ep F s t g e=some (s.Z+hiZ ((2*g+1)*s.Step) t e):=by
 have h1:=sqB ht;have h0:=Ht (x:=2*g+1) (y:=s.Step) (A:=401) (B:=2000) (by omega) (by omega);obtain ⟨_,g1,_,g4⟩:=gB (L:=(2*g+1)*s.Step) (t:=t) (by omega) ht;have h2:=R9 (x:=gHi ((2*g+1)*s.Step) t) (y:=gHi ((2*g+1)*s.Step) t) (A:=1000000) (B:=1000000) g1 g1;have b1:=Hf (a:=-((2*g+1)*s.Step*(1024*t))) (b:=2*(262144+t*t)) (A:=1000000) (by omega) (by omega) (by omega);have b2:=Hf (a:=-(gHi ((2*g+1)*s.Step) t*gHi ((2*g+1)*s.Step) t)) (b:=2*e) (A:=1000000) (by omega) (by omega) (by omega);unfold Ep;rw [Hp ht,sbd,Sg hs hg ht,sbd];unfold slt;dsimp only;rw [ckb (by omega),ckb (by omega),ckb (by omega),ckb (by omega),ckb (by omega),ckb (by omega),ckb (by omega),Ws (by omega) (by omega),sbd,ckb (by omega),Ws (by omega) (by omega),sbd,ckb (by omega),Int.add_assoc];rfl
def VE (e:api_Span):Prop:=1000000≤e.Lo∧e.Lo≤e.Hi∧e.Hi≤100000000
def Vf (s:api_Site) (t:Int) (e:api_Span) (g:Int):api_Span:=⟨s.Z+loZ ((2*g+1)*s.Step) (t-s.Width) e.Hi,s.Z+hiZ ((2*g+1)*s.Step) (t+s.Width) e.Lo⟩
theorem X0 {F:Nat} {s:api_Site} {t g:Int} {e:api_Span} (hn:beam_CheckSite F s=some 0) (hs:VS s) (he:VE e) (ht:0≤t∧t≤256) (hg:0≤g∧g<s.Gates):Jc F s t e g=some (Vf s t e g,0):=by
 obtain ⟨e1,e2,e3⟩:=he;have h1:=hs.gates;have h2:=hs.step;have h3:=hs.width;have hv:Do e=true:=by unfold Do;rw [dT e1,dT e2,dT e3];rfl
 unfold Jc;rw [hn,sbd,D9 ht,hv];simp only [bne_self_eq_false,cond_false,Bool.not_true,Bool.and_true,beq_self_eq_true];rw [gdT rfl,ckb (by omega),D9 (by omega)];simp only [cond_false,Bool.not_true];rw [ckb (by omega),ckb (by omega),Ti (by omega) hs.z (by omega) (by omega) (by omega),sbd,Tj (by omega) hs.z (by omega) (by omega) (by omega),sbd];rfl
end Go.Proofs.YtkbjbnkkfifbmaaGreat
namespace Go.Proofs.YtkbjbnkkfifbmaaGreat
open Go Go.RowKit Go.Eng
set_option maxRecDepth 10000
set_option linter.unusedVariables false
set_option linter.unusedSimpArgs false
section
variable {κ ν:Type} [DecidableEq κ]
theorem Mh (B:List (κ×ν)) (k x:κ) (v:ν):lkM (upM B k v) x=if x=k then some v else lkM B x:=by
 induction B with
 | nil=>rfl
 | cons p B ih =>
  unfold upM
  by_cases h:k=p.1
  ·rw [if_pos h];unfold lkM;subst h
   by_cases hx:x=p.1
   ·rw [if_pos hx,if_pos hx]
   ·rw [if_neg hx,if_neg hx,if_neg hx]
  ·rw [if_neg h];unfold lkM
   by_cases hx:x=p.1
   ·rw [if_pos hx,if_neg (by rw [hx];exact fun e=>h e.symm),if_pos hx]
   ·rw [if_neg hx,ih]
    by_cases hk:x=k
    ·rw [if_pos hk,if_pos hk]
    ·rw [if_neg hk,if_neg hk,if_neg hx]
theorem Xk (B:List (κ×ν)) (k:κ) (v:ν):lkM (upM B k v) k=some v:=by rw [Mh,if_pos rfl]
theorem W5 {B:List (κ×ν)} {k:κ} {v:ν} (h:lkM B k=some v):(k,v)∈B:=by
 induction B with
 | nil=>cases h
 | cons p B ih =>
  unfold lkM at h
  by_cases hk:k=p.1
  ·rw [if_pos hk] at h;cases h;subst hk;exact .head _
  ·rw [if_neg hk] at h;exact .tail _ (ih h)
theorem T9 {B:List (κ×ν)} {k:κ}:(∃v,lkM B k=some v)↔k∈B.map (·.1):=by
 induction B with
 | nil=>simp [lkM]
 | cons p B ih =>
  unfold lkM
  by_cases hk:k=p.1
  ·simp [hk]
  ·rw [if_neg hk,ih];simp [hk]
theorem A04 {B:List (κ×ν)} {k:κ} {v:ν} {p:κ×ν} (h:p∈upM B k v):p=(k,v)∨p∈B:=by
 induction B with
 | nil=>simp [upM] at h;exact .inl h
 | cons q B ih =>
  unfold upM at h
  by_cases hk:k=q.1
  ·rw [if_pos hk] at h;rcases List.mem_cons.1 h with h|h
   ·exact .inl h
   ·exact .inr (.tail _ h)
  ·rw [if_neg hk] at h;rcases List.mem_cons.1 h with h|h
   ·exact .inr (h▸.head _)
   ·rcases ih h with h|h
    ·exact .inl h
    ·exact .inr (.tail _ h)
theorem Y3 {B:List (κ×ν)} {k x:κ} {v:ν}:x∈(upM B k v).map (·.1)↔x=k∨x∈B.map (·.1):=by
 rw [←T9,←T9,Mh]
 by_cases h:x=k
 ·simp [h]
 ·simp [h]
theorem Wr {B:List (κ×ν)} {k:κ} {v:ν} (hn:(B.map (·.1)).Nodup):((upM B k v).map (·.1)).Nodup:=by
 induction B with
 | nil=>simp [upM]
 | cons q B ih =>
  rw [List.map_cons,List.nodup_cons] at hn;unfold upM
  by_cases hk:k=q.1
  ·rw [if_pos hk,List.map_cons,List.nodup_cons];subst hk;exact hn
  ·rw [if_neg hk,List.map_cons,List.nodup_cons];exact ⟨fun h=>(Y3.1 h).elim (fun e=>hk e.symm) hn.1,ih hn.2⟩
end
def tot (B:List (mosaic_Key×List (List api_Span))):Nat:=(B.map fun p=>p.2.length).sum
def kl (B:List (mosaic_Key×List (List api_Span))) (k:mosaic_Key):List (List api_Span):=(lkM B k).getD []
theorem A03 (B:List (mosaic_Key×List (List api_Span))) (k:mosaic_Key) (l:List (List api_Span)):tot (upM B k l)+(kl B k).length=tot B+l.length:=by
 induction B with
 | nil=>simp [tot,upM,kl,lkM]
 | cons p B ih =>
  unfold upM kl lkM
  by_cases h:k=p.1
  ·rw [if_pos h,if_pos h];simp [tot];omega
  ·rw [if_neg h,if_neg h];have e1:∀C,tot (p::C)=p.2.length+tot C:=fun C=>by simp [tot]
   rw [e1,e1];have:((lkM B k).getD []).length=(kl B k).length:=rfl;omega
theorem U5 (B:List (mosaic_Key×List (List api_Span))) (k:mosaic_Key):(kl B k).length≤tot B:=by
 induction B with
 | nil=>simp [kl,lkM]
 | cons p B ih =>
  have e1:tot (p::B)=p.2.length+tot B:=by simp [tot]
  unfold kl lkM
  by_cases h:k=p.1
  ·rw [if_pos h,e1];simp
  ·rw [if_neg h,e1];have:((lkM B k).getD []).length=(kl B k).length:=rfl;omega
theorem T8 {B:List (mosaic_Key×List (List api_Span))} (h:∀p∈B,p.2≠[]):B.length≤tot B:=by
 induction B with
 | nil=>simp [tot]
 | cons p B ih =>
  have e1:tot (p::B)=p.2.length+tot B:=by simp [tot]
  have:=List.length_pos_iff.2 (h p (.head _));have:=ih fun q hq=>h q (.tail _ hq);rw [e1,List.length_cons];omega
def c3 (a b:Int):Int:=if a<b then -1 else if b<a then 1 else 0
def X4 (x y:api_Span):Int:=if c3 x.Lo y.Lo≠0 then c3 x.Lo y.Lo else c3 x.Hi y.Hi
def Ll:List api_Span→List api_Span→Int
 | [],[]=>0
 | [],_::_=>-1
 | _::_,[]=>1
 | x::a,y::b=>if X4 x y≠0 then X4 x y else Ll a b
theorem Ge (a b:Int):Ab a b=c3 a b:=by
 unfold Ab By c3;simp only [bne_self_eq_false,cond_false]
 by_cases h1:a<b
 ·rw [dT h1,if_pos h1];rfl
 ·by_cases h2:b<a
  ·rw [dF h1,if_neg h1,if_pos h2,dT h2];rfl
  ·rw [dF h1,if_neg h1,if_neg h2,dF h2];rfl
def orL:List Int→Int
 | []=>0
 | x::l=>if x≠0 then x else orL l
theorem Zr (l:List Int):∀(n i:Nat),i≤l.length→l.length-i<n→l.length<1000000→Ev l n (i:Int)=some (orL (l.drop i)):=by
 intro n
 induction n with
 | zero=>intro i _ h;omega
 | succ n ih =>
  intro i hi hn hl;rw [Ev];unfold Gt
  by_cases hc:i<l.length
  ·rw [Cx (dT (by omega)),F1 i l[i] rfl (List.getElem?_eq_getElem hc),List.drop_eq_getElem_cons hc];unfold orL
   by_cases h:l[i]=0
   ·rw [Bg (by simpa using h),if_neg (by simpa using h),ckb (by omega)];exact ih (i+1) (by omega) (by omega) hl
   ·rw [Cx (by simpa using h),if_pos h]
  ·rw [Bg (dF (by omega)),List.drop_eq_nil_of_le (by omega)];rfl
theorem Yc {F:Nat} (l:List Int) (h:l.length<F) (h2:l.length<1000000):Hk F l=some (orL l):=by
 have:=Zr l F 0 (by omega) (by omega) h2;rw [List.drop_zero] at this;exact this
theorem A1d (a b:Int):orL [a,b]=if a≠0 then a else b:=by
 show (if a≠0 then a else if b≠0 then b else 0)=_
 split
 ·rfl
 ·split<;>omega
theorem Ro {F:Nat} (hF:100≤F) (x y:api_Span):E9 F x y=some (X4 x y):=by
 unfold E9;rw [Ge,Ge,Yc _ (by simp;omega) (by simp),sbd,A1d];rfl
theorem X3 {F:Nat} (hF:100≤F) (a b:List api_Span) (ha:a.length<1000000):∀(n i:Nat),i≤a.length→a.length-i<n →
  Aa F a b n (i:Int)=some (if i≤b.length then Ll (a.drop i) (b.drop i) else if i<a.length then 1 else 0):=by
 intro n
 induction n with
 | zero=>intro i _ h;omega
 | succ n ih =>
  intro i hi hn;rw [Aa];unfold Ai
  by_cases hc:i<a.length
  ·rw [Cx (dT (by omega)),F1 i a[i] rfl (List.getElem?_eq_getElem hc)]
   by_cases hb:i<b.length
   ·rw [Bg (dF (by omega)),F1 i b[i] rfl (List.getElem?_eq_getElem hb),Ro hF,sbd,if_pos (by omega),List.drop_eq_getElem_cons hc,List.drop_eq_getElem_cons hb];unfold Ll
    by_cases h:X4 a[i] b[i]=0
    ·rw [Bg (by simpa using h),if_neg (by simpa using h),ckb (by omega)];have:=ih (i+1) (by omega) (by omega);rw [if_pos (by omega)] at this;exact this
    ·rw [Cx (by simpa using h),if_pos h]
   ·rw [Cx (dT (by omega))]
    by_cases hb2:i≤b.length
    ·rw [if_pos hb2,List.drop_eq_nil_of_le (show b.length≤i by omega),List.drop_eq_getElem_cons hc];rfl
    ·rw [if_neg hb2,if_pos hc]
  ·rw [Bg (dF (by omega))];unfold Aj;have e:a.drop i=[]:=List.drop_eq_nil_of_le (by omega)
   by_cases hb:a.length<b.length
   ·rw [Cx (dT (by omega)),if_pos (by omega),e,List.drop_eq_getElem_cons (l:=b) (by omega)];rfl
   ·rw [Bg (dF (by omega))]
    by_cases hb2:i≤b.length
    ·rw [if_pos hb2,e,List.drop_eq_nil_of_le (show b.length≤i by omega)];rfl
    ·rw [if_neg hb2,if_neg hc]
theorem Nu {F:Nat} (hF:100≤F) (a b:List api_Span) (ha:a.length<F) (h2:a.length<1000000):E8 F a b=some (Ll a b):=by
 unfold E8 Al;have:=X3 hF a b h2 F 0 (by omega) (by omega);rw [if_pos (by omega),List.drop_zero,List.drop_zero] at this;have e:Aa F a b F 0=some (Ll a b):=this;rw [e];rfl
theorem A17 {x:Int} (h:0≤x∧x≤9000000000000000000):IntKind.u64.wrap x=x:=by
 have:=h.1;have:=h.2;simp only [IntKind.wrap,IntKind.signed,IntKind.bits];simp;omega
theorem Tk {F:Nat} (hF:100≤F) (l:List (List api_Span)) (v:List api_Span) (hl:l.length<1000000) (hv:∀x∈l,x.length<F∧x.length<1000000):∀(n i j:Nat),i≤j→j≤l.length→j-i<n →
  ∃(r:Nat) (b:Bool),Ad F l v n (j:Int) (i:Int)=some ((r:Int),b)∧r≤l.length∧i≤r∧r≤j∧(b=true↔∃x,l[r]? = some x∧Ll x v=0)∧(r=i∨∃x,l[r-1]? = some x∧Ll x v<0)∧(r=j∨∃x,l[r]? = some x∧¬Ll x v<0):=by
 intro n
 induction n with
 | zero=>intro i j _ _ h;omega
 | succ n ih =>
  intro i j hij hj hn;rw [Ad];unfold Am
  by_cases hc:i<j
  ·have hm:(i+j)/2<l.length:=by omega
   rw [Cx (dT (by omega)),ckb (by omega),A17 (by omega),Int.fdiv_eq_ediv_of_nonneg _ (by omega),ckb (by omega),F1 ((i+j)/2) l[(i+j)/2] (by omega) (List.getElem?_eq_getElem hm)];obtain ⟨h1,h2⟩:=hv _ (List.getElem_mem hm);rw [Nu hF _ _ h1 h2,sbd]
   by_cases hlt:Ll l[(i+j)/2] v<0
   ·rw [Cx (dT hlt),ckb (by omega),show ((i:Int)+(j:Int))/2+1=(((i+j)/2+1:Nat):Int) by omega];obtain ⟨r,b,e,r1,r2,r3,r4,r5,r6⟩:=ih ((i+j)/2+1) j (by omega) hj (by omega);refine ⟨r,b,e,r1,by omega,r3,r4,.inr ?_,r6⟩;rcases r5 with h|h
    ·exact ⟨_,by rw [h,Nat.add_sub_cancel];exact List.getElem?_eq_getElem hm,hlt⟩
    ·exact h
   ·rw [Bg (dF hlt),show ((i:Int)+(j:Int))/2=(((i+j)/2:Nat):Int) by omega];obtain ⟨r,b,e,r1,r2,r3,r4,r5,r6⟩:=ih i ((i+j)/2) (by omega) (by omega) (by omega);refine ⟨r,b,e,r1,r2,by omega,r4,r5,.inr ?_⟩;rcases r6 with h|h
    ·exact ⟨_,by rw [h];exact List.getElem?_eq_getElem hm,hlt⟩
    ·exact h
  ·rw [Bg (dF (by omega))];unfold An;have:i=j:=by omega
   subst this
   by_cases hi:i<l.length
   ·rw [Cx (dT (by omega)),F1 i l[i] rfl (List.getElem?_eq_getElem hi)];obtain ⟨h1,h2⟩:=hv _ (List.getElem_mem hi);rw [Nu hF _ _ h1 h2,sbd];refine ⟨i,_,rfl,hj,Nat.le_refl _,Nat.le_refl _,?_,.inl rfl,.inl rfl⟩;rw [List.getElem?_eq_getElem hi];simp
   ·rw [Bg (dF (by omega))];refine ⟨i,_,rfl,hj,Nat.le_refl _,Nat.le_refl _,?_,.inl rfl,.inl rfl⟩;rw [List.getElem?_eq_none (by omega)];simp
theorem Wj {F:Nat} (hF:100≤F) (N:mosaic_Node) (m:mosaic_Message) (hl:(kl N.kept m.Key).length<F∧(kl N.kept m.Key).length<1000000) (hv:∀x∈kl N.kept m.Key,x.length<F∧x.length<1000000) :
  ∃(r:Nat) (b:Bool),C4 F N m=some ((r:Int),b)∧r≤(kl N.kept m.Key).length∧(b=true↔∃x,(kl N.kept m.Key)[r]? = some x∧Ll x m.Vals=0)∧(r=0∨∃x,(kl N.kept m.Key)[r-1]? = some x∧Ll x m.Vals<0)∧(r=(kl N.kept m.Key).length∨∃x,(kl N.kept m.Key)[r]? = some x∧¬Ll x m.Vals<0):=by
 obtain ⟨r,b,e,r1,_,_,r4,r5,r6⟩:=Tk hF (kl N.kept m.Key) m.Vals hl.2 hv F 0 (kl N.kept m.Key).length (by omega) (Nat.le_refl _) (by omega);refine ⟨r,b,?_,r1,r4,r5,r6⟩;unfold C4 Ap;have e':Ad F ((lkM N.kept m.Key).getD []) m.Vals F (((lkM N.kept m.Key).getD []).length:Int) 0=some ((r:Int),b):=e;rw [e'];rfl
end Go.Proofs.YtkbjbnkkfifbmaaGreat
namespace Go.Proofs.YtkbjbnkkfifbmaaGreat
open Go Go.RowKit Go.Eng
set_option maxRecDepth 10000
set_option linter.unusedVariables false
set_option linter.unusedSimpArgs false
def radM (s:mosaic_Spec):List (ByteArray×mosaic_Radar):=s.Radars.foldl (fun B r=>upM B r.Site.Name r) []
def pix (s:mosaic_Spec):Nat:=(s.Grid.Wide*s.Grid.High).toNat
structure GS (F:Nat) (s:mosaic_Spec):Prop where
 g:VG s.Grid
 e:VE s.Earth
 age:1≤s.Age∧s.Age≤86400
 small:pix s≤500
 r:∀n x,lkM (radM s) n=some x→VS x.Site∧beam_CheckSite F x.Site=some 0∧(-3600≤x.Offset.Lo∧x.Offset.Lo≤x.Offset.Hi∧x.Offset.Hi≤3600)∧n≠ByteArray.empty∧x.Site.Name=n
def okK (s:mosaic_Spec) (k:mosaic_Key):Prop:=(∃r,lkM (radM s) k.Name=some r)∧(0≤k.Tilt∧k.Tilt≤256)∧(0≤k.Time∧k.Time≤4294967296)
structure okM (s:mosaic_Spec) (m:mosaic_Message):Prop where
 key:okK s m.Key
 len:m.Vals.length=pix s
 vals:∀v∈m.Vals,0≤v.Lo∧v.Lo≤v.Hi∧v.Hi≤1000000
def Kf (F:Nat) (s:mosaic_Spec) (w:mosaic_where):List api_Span :=
 (((Gf F ((lkM (radM s) w.name).getD default).Site w.tilt s.Grid).getD ([],0)).1).map fun v=>if 0≤v then Vf ((lkM (radM s) w.name).getD default).Site w.tilt s.Earth (v.tmod ((lkM (radM s) w.name).getD default).Site.Gates) else ⟨1,0⟩
def LV (F:Nat) (s:mosaic_Spec) (L:List (mosaic_where×List api_Span)):Prop:=∀w l,lkM L w=some l→l=Kf F s w
structure NI (F:Nat) (s:mosaic_Spec) (N:mosaic_Node):Prop where
 spec:N.spec=s
 radars:N.radars=radM s
 nd:(N.kept.map (·.1)).Nodup
 ok:∀p∈N.kept,okK s p.1∧p.2≠[]∧∀v∈p.2,v.length=pix s
 count:N.count=(tot N.kept:Int)
 looks:LV F s N.looks
def Nd (l:List (List api_Span)) (r:Nat) (v:List api_Span):List (List api_Span):=l.take r++[v]++l.drop r
def Lc (N:mosaic_Node) (m:mosaic_Message) (r:Nat):mosaic_Node:=⟨N.spec,N.radars,N.horizon,upM N.kept m.Key (Nd (kl N.kept m.Key) r m.Vals),N.count+1,N.looks⟩
theorem Q4 {l:List (List api_Span)} {r:Nat} {v:List api_Span} (h:r≤l.length):(Nd l r v).length=l.length+1:=by unfold Nd;simp;omega
theorem Us {l:List (List api_Span)} {r:Nat} {v x:List api_Span}:x∈Nd l r v↔x=v∨x∈l:=by
 unfold Nd;rw [List.mem_append,List.mem_append,List.mem_singleton];constructor
 ·rintro ((h|h)|h)
  ·exact .inr (List.mem_of_mem_take h)
  ·exact .inl h
  ·exact .inr (List.mem_of_mem_drop h)
 ·rintro (h|h)
  ·exact .inl (.inr h)
  ·rw [←List.take_append_drop r l] at h;rcases List.mem_append.1 h with h|h
   ·exact .inl (.inl h)
   ·exact .inr h
theorem NI.kl_ok {F:Nat} {s:mosaic_Spec} {N:mosaic_Node} (h:NI F s N) (k:mosaic_Key):∀v∈kl N.kept k,v.length=pix s:=by
 intro v hv;unfold kl at hv
 cases e:lkM N.kept k with
 | none=>rw [e] at hv;cases hv
 | some l=>rw [e] at hv;exact (h.ok _ (W5 e)).2.2 v hv
theorem NI.put {F:Nat} {s:mosaic_Spec} {N:mosaic_Node} {m:mosaic_Message} {r:Nat} (h:NI F s N) (hm:okM s m) (hr:r≤(kl N.kept m.Key).length):NI F s (Lc N m r):=by
 refine ⟨h.spec,h.radars,Wr h.nd,?_,?_,h.looks⟩
 ·intro p hp;rcases A04 hp with rfl|hp
  ·refine ⟨hm.key,fun e=>?_,fun v hv=>?_⟩
   ·have:=Q4 (v:=m.Vals) hr;have e':Nd (kl N.kept m.Key) r m.Vals=[]:=e;rw [e'] at this;simp at this
   ·rcases Us.1 hv with rfl|hv
    ·exact hm.len
    ·exact h.kl_ok _ v hv
  ·exact h.ok p hp
 ·have h1:=A03 N.kept m.Key (Nd (kl N.kept m.Key) r m.Vals);rw [Q4 hr] at h1;show N.count+1=_;rw [h.count];show _=((tot (upM N.kept m.Key (Nd (kl N.kept m.Key) r m.Vals)):Nat):Int);omega
theorem Jk {n a b:Int} (h:a≤n∧n≤b):B8 n a b=true:=by unfold B8;rw [dT h.1,dT h.2];rfl
theorem P4 {v:api_Span} {a b:Int} (h:a≤v.Lo∧v.Lo≤v.Hi∧v.Hi≤b):Bz v a b=true:=by unfold Bz;rw [dT h.1,dT h.2.1,dT h.2.2];rfl
theorem V7 {m:mosaic_Message} (hl:m.Vals.length<1000000) (hv:∀v∈m.Vals,0≤v.Lo∧v.Lo≤v.Hi∧v.Hi≤1000000):∀(n i:Nat),i≤m.Vals.length→m.Vals.length-i<n→Bx m n (i:Int)=some 0:=by
 intro n
 induction n with
 | zero=>intro i _ h;omega
 | succ n ih =>
  intro i hi hn;rw [Bx];unfold Db
  by_cases hc:i<m.Vals.length
  ·rw [Cx (dT (by omega)),F1 i m.Vals[i] rfl (List.getElem?_eq_getElem hc),P4 (hv _ (List.getElem_mem hc)),Bg (c:=!true) rfl,ckb (by omega)];exact ih (i+1) (by omega) (by omega)
  ·rw [Bg (dF (by omega))];rfl
theorem Xt {F:Nat} {s:mosaic_Spec} (h:GS F s):s.Grid.Wide*s.Grid.High=(pix s:Int)∧1≤pix s:=by
 have h1:=h.g.wide;have h2:=h.g.high;have h3:=Ht (x:=s.Grid.Wide) (y:=s.Grid.High) (A:=64) (B:=64) (by omega) (by omega);have h4:1*1≤s.Grid.Wide*s.Grid.High:=Int.mul_le_mul h1.1 h2.1 (by omega) (by omega);unfold pix;omega
theorem Wx {F:Nat} {s:mosaic_Spec} {N:mosaic_Node} {m:mosaic_Message} (hF:1000≤F) (hs:GS F s) (hN:NI F s N) (hm:okM s m):D6 F N m=some 0:=by
 obtain ⟨r,hr⟩:=hm.key.1;have h1:=Xt hs;have h2:=hs.small;unfold D6;rw [hN.radars,hr,Bg (c:=!(some r).isSome) rfl,Jk hm.key.2.1,Jk hm.key.2.2,Bg (c:=bif !true then true else !true) rfl,hN.spec,ckb (by omega),Bg (by rw [hm.len,h1.1];simp)];exact V7 (by rw [hm.len];omega) hm.vals F 0 (by omega) (by rw [hm.len];omega)
theorem Zt {F:Nat} {s:mosaic_Spec} {N:mosaic_Node} {m:mosaic_Message} {r:Nat} {b:Bool} (hF:1000≤F) (hs:GS F s) (hN:NI F s N) (hm:okM s m) (hc:N.count<1000000) (hp:C4 F N m=some ((r:Int),b)) (hr:r≤(kl N.kept m.Key).length):Eb F N m=some (Lc N m r):=by
 have h2:=hs.small;have h3:=U5 N.kept m.Key;have h4:=hN.count;unfold Eb;rw [hp,sbd];unfold Be As;rw [show (lkM N.kept m.Key).getD []=kl N.kept m.Key from rfl,Mp (by simp;omega) (by decide),List.nil_append,sbd,Mp (by rw [hm.len];simp;omega) (by decide),List.nil_append,sbd];unfold Ga;rw [if_pos ⟨by omega,by omega,rfl,by omega⟩,sbd,ckb (by omega)];rfl
theorem Ri {F:Nat} {s:mosaic_Spec} {N:mosaic_Node} {m:mosaic_Message} (hF:1000≤F) (hs:GS F s) (hN:NI F s N) (hm:okM s m) (hh:N.horizon≤m.Key.Time) (hc:N.count<256) :
  ∃(r:Nat) (b:Bool),Bh F N m=some (!b,0,if b then N else Lc N m r)∧r≤(kl N.kept m.Key).length∧(b=true↔∃x,(kl N.kept m.Key)[r]? = some x∧Ll x m.Vals=0)∧(r=0∨∃x,(kl N.kept m.Key)[r-1]? = some x∧Ll x m.Vals<0)∧(r=(kl N.kept m.Key).length∨∃x,(kl N.kept m.Key)[r]? = some x∧¬Ll x m.Vals<0):=by
 have h2:=hs.small;have h3:=U5 N.kept m.Key;have h4:=hN.count;obtain ⟨r,b,e,r1,r2,r3,r4⟩:=Wj (F:=F) (by omega) N m (by omega) (fun x hx=>by rw [hN.kl_ok _ x hx];omega);refine ⟨r,b,?_,r1,r2,r3,r4⟩;unfold Bh Az;rw [sbd,cond_false,Wx hF hs hN hm,sbd,Bg (c:=(0:Int) != 0) rfl,Bg (dF (by omega)),e,sbd]
 cases b with
 | true=>rfl
 | false =>
  rw [Bg (c:=((r:Int),false).2) rfl,Bg (dF (by omega)),Zt hF hs hN hm (by omega) e r1,sbd];rfl
end Go.Proofs.YtkbjbnkkfifbmaaGreat
namespace Go.Proofs.YtkbjbnkkfifbmaaGreat
open Go Go.RowKit Go.Eng
set_option maxRecDepth 10000
set_option linter.unusedVariables false
set_option linter.unusedSimpArgs false
def ksN (N:mosaic_Node):List mosaic_Key:=D8 (N.kept.map (·.1))
def msgs (N:mosaic_Node):List mosaic_Message:=(ksN N).flatMap fun k=>(kl N.kept k).map (mosaic_Message.mk k)
theorem Hl (N:mosaic_Node):(ksN N).length=N.kept.length∧(ksN N).Perm (N.kept.map (·.1))∧(ksN N).Pairwise (fun x y=>¬KLt y x):=by
 obtain ⟨h1,h2,h3⟩:=J7 Ef P5 (N.kept.map (·.1));refine ⟨by unfold ksN D8;rw [h1];simp,h2,h3.imp ?_⟩;intro x y h hlt;rw [(Me y x).2 hlt] at h;cases h
theorem Lm {N:mosaic_Node} {k:mosaic_Key}:k∈ksN N↔∃l,lkM N.kept k=some l:=by
 rw [(Hl N).2.1.mem_iff,T9]
theorem NI.small {F:Nat} {s:mosaic_Spec} {N:mosaic_Node} (h:NI F s N):(ksN N).length≤tot N.kept:=by
 rw [(Hl N).1];exact T8 fun p hp=>(h.ok p hp).2.1
theorem NI.key {F:Nat} {s:mosaic_Spec} {N:mosaic_Node} (h:NI F s N) {k:mosaic_Key} (hk:k∈ksN N):okK s k∧kl N.kept k≠[]:=by
 obtain ⟨l,hl⟩:=Lm.1 hk;have:=h.ok _ (W5 hl);refine ⟨this.1,?_⟩;unfold kl;rw [hl];exact this.2.1
theorem Nm {F:Nat} {N:mosaic_Node} (h:N.kept.length≤1000000):Dk F N=some (ksN N):=by unfold Dk;rw [if_pos h];rfl
theorem Vb {F:Nat} {N:mosaic_Node} {x:Int} {k2:Int→List mosaic_Message→Option (List mosaic_Message)} {k:mosaic_Key} (hv:∀v∈kl N.kept k,v.length≤10000) (hx:0≤x∧x≤1000000) (hk:(kl N.kept k).length≤1000) :
  ∀(n i:Nat) (acc:List mosaic_Message),i≤(kl N.kept k).length→(kl N.kept k).length-i<n→acc.length+((kl N.kept k).length-i)≤10000000→Ci F N x k2 k n (i:Int) acc=k2 (x+1) (acc++((kl N.kept k).drop i).map (mosaic_Message.mk k)):=by
 intro n
 induction n with
 | zero=>intro i acc _ h;omega
 | succ n ih =>
  intro i acc hi hn ha;rw [Ci];unfold E0;rw [show (lkM N.kept k).getD []=kl N.kept k from rfl]
  by_cases hc:i<(kl N.kept k).length
  ·have hl:=hv _ (List.getElem_mem hc);rw [Cx (dT (by omega)),F1 i (kl N.kept k)[i] rfl (List.getElem?_eq_getElem hc)];unfold As;rw [Mp (by simp;omega) (by decide),List.nil_append,sbd,Mp (by simp;omega) (by decide),ckb (by omega)];have:=ih (i+1) (acc++[mosaic_Message.mk k (kl N.kept k)[i]]) (by omega) (by omega) (by simp;omega);rw [List.append_assoc,List.singleton_append,←List.map_cons,←List.drop_eq_getElem_cons hc] at this;exact this
  ·rw [Bg (dF (by omega)),List.drop_eq_nil_of_le (by omega)];unfold E3;rw [ckb (by omega),List.map_nil,List.append_nil]
theorem Vc {F:Nat} {N:mosaic_Node} {L:List mosaic_Key} (hF:1000≤F) (hL:L.length≤1000) (hv:∀k,∀v∈kl N.kept k,v.length≤10000) (hk:∀k,(kl N.kept k).length<1000) :
  ∀(n i:Nat) (acc:List mosaic_Message),i≤L.length→L.length-i<n→acc.length+1000*(L.length-i)≤10000000→Bu F N L n (i:Int) acc=some (acc++(L.drop i).flatMap fun k=>(kl N.kept k).map (mosaic_Message.mk k)):=by
 intro n
 induction n with
 | zero=>intro i acc _ h;omega
 | succ n ih =>
  intro i acc hi hn ha;rw [Bu];unfold Dz
  by_cases hc:i<L.length
  ·have h1:=hk L[i];rw [Cx (dT (by omega)),F1 i L[i] rfl (List.getElem?_eq_getElem hc)];have h2:=Vb (F:=F) (N:=N) (x:=i) (k2:=Bu F N L n) (k:=L[i]) (hv _) (by omega) (by omega) F 0 acc (by omega) (by omega) (by omega);rw [List.drop_zero] at h2;have h3:=ih (i+1) (acc++(kl N.kept L[i]).map (mosaic_Message.mk L[i])) (by omega) (by omega) (by simp;omega);rw [List.append_assoc,←List.flatMap_cons (f:=fun k=>(kl N.kept k).map (mosaic_Message.mk k)),←List.drop_eq_getElem_cons hc] at h3;exact h2.trans h3
  ·rw [Bg (dF (by omega)),List.drop_eq_nil_of_le (by omega)];unfold E2;rw [List.flatMap_nil,List.append_nil]
theorem Wb {N:mosaic_Node} (hk:∀k,(kl N.kept k).length<1000) (L:List mosaic_Key):(L.flatMap fun k=>(kl N.kept k).map (mosaic_Message.mk k)).length≤1000*L.length:=by
 induction L with
 | nil=>simp
 | cons k L ih =>
  rw [List.flatMap_cons,List.length_append,List.length_map,List.length_cons];have:=hk k;omega
theorem Ys {F:Nat} {s:mosaic_Spec} {N:mosaic_Node} (hF:1000≤F) (hs:GS F s) (h:NI F s N) (ht:tot N.kept<900):D2 F N=some (msgs N):=by
 have h1:=h.small;have h2:=(Hl N).1;have h3:=hs.small;unfold D2;rw [Nm (by omega),sbd];have:=Vc (F:=F) (N:=N) (L:=ksN N) hF (by omega) (fun k v hv=>by rw [h.kl_ok k v hv];omega) (fun k=>by have:=U5 N.kept k;omega) F 0 [] (by omega) (by omega) (by simp;omega);rw [List.drop_zero,List.nil_append] at this;exact this
theorem N7 {F:Nat} {s:mosaic_Spec} {N:mosaic_Node} (hF:1000≤F) (hs:GS F s) (h:NI F s N) (ht:tot N.kept<900):Cs F N []=some (msgs N,0):=by
 have h1:=h.small;have h2:=Wb (N:=N) (fun k=>by have:=U5 N.kept k;omega) (ksN N);have h3:(msgs N).length≤1000000:=Nat.le_trans h2 (by omega);unfold Cs;rw [if_neg (by simp),Ys hF hs h ht,sbd,if_pos h3];have e:(msgs N).filter (Rz N (F6 []))=msgs N:=by
  rw [List.filter_eq_self];intro m _;rfl
 rw [e]
theorem S5 {N:mosaic_Node} {m:mosaic_Message}:m∈msgs N↔m.Vals∈kl N.kept m.Key:=by
 unfold msgs;rw [List.mem_flatMap];constructor
 ·rintro ⟨k,_,hm⟩;obtain ⟨v,hv,rfl⟩:=List.mem_map.1 hm;exact hv
 ·intro hv;refine ⟨m.Key,?_,List.mem_map.2 ⟨m.Vals,hv,rfl⟩⟩;rw [Lm];unfold kl at hv
  cases e:lkM N.kept m.Key with
  | none=>rw [e] at hv;cases hv
  | some l=>exact ⟨l,rfl⟩
end Go.Proofs.YtkbjbnkkfifbmaaGreat
namespace Go.Proofs.YtkbjbnkkfifbmaaGreat
open Go Go.RowKit Go.Eng
set_option maxRecDepth 10000
set_option linter.unusedVariables false
set_option linter.unusedSimpArgs false
theorem P3 {α:Type} {x d:α}:(some x).getD d=x:=rfl
def N9 (s:mosaic_Spec) (t:Int) (r:mosaic_Radar) (v:Int):api_Span:=if 0≤v then Vf r.Site t s.Earth (v.tmod r.Site.Gates) else ⟨1,0⟩
theorem W6 {F:Nat} {s:mosaic_Spec} {N:mosaic_Node} {k:mosaic_Key} {r:mosaic_Radar} {V:List Int} (hs:GS F s) (hsp:N.spec=s) (hr:N.radars=radM s) (hk:okK s k) (hrk:lkM (radM s) k.Name=some r) (hV:V.length≤1000) :
  ∀(n i:Nat) (acc:List api_Span),i≤V.length→V.length-i<n→acc.length≤i→Bm F N k (V,0) n acc (i:Int)=some (acc++(V.drop i).map (N9 s k.Tilt r),upM N.looks ⟨k.Name,k.Tilt⟩ (acc++(V.drop i).map (N9 s k.Tilt r))):=by
 obtain ⟨v1,v2,_,_,_⟩:=hs.r _ _ hrk;have hg:=v1.gates;intro n
 induction n with
 | zero=>intro i acc _ h;omega
 | succ n ih =>
  intro i acc hi hn ha;rw [Bm];unfold Dm;rw [show (V,(0:Int)).1=V from rfl]
  by_cases hc:i<V.length
  ·have fin:∀b:api_Span,b=N9 s k.Tilt r V[i]→C8 acc i (Bm F N k (V,0) n) b.Lo b.Hi=some (acc++(V.drop i).map (N9 s k.Tilt r),upM N.looks ⟨k.Name,k.Tilt⟩ (acc++(V.drop i).map (N9 s k.Tilt r))):=by
    intro b hb;unfold C8;rw [Mp (by simp;omega) (by decide),ckb (by omega)];have:=ih (i+1) (acc++[b]) (by omega) (by omega) (by simp;omega);rw [List.append_assoc,List.singleton_append,hb,←List.map_cons,←List.drop_eq_getElem_cons hc] at this;rw [hb];exact this
   rw [Cx (dT (by omega)),F1 i V[i] rfl (List.getElem?_eq_getElem hc),hr,hrk,P3]
   by_cases hv:V[i]≥0
   ·have e1:D3 V[i] r.Site.Gates=some (V[i].tmod r.Site.Gates):=by unfold D3;rw [if_neg (by omega)]
    have h0:=Int.tmod_nonneg r.Site.Gates hv;have h1:=Int.tmod_lt_of_pos V[i] (show 0<r.Site.Gates by omega);rw [Cx (dT hv),e1,sbd,hsp,show (api_Site.mk r.Site.Name r.Site.X r.Site.Y r.Site.Z r.Site.Rose r.Site.Gates r.Site.Step r.Site.Width)=r.Site from rfl,X0 v2 v1 hs.e hk.2.1 ⟨h0,h1⟩,sbd];exact fin _ (by unfold N9;rw [if_pos hv])
   ·rw [Bg (dF hv)];exact fin ⟨1,0⟩ (by unfold N9;rw [if_neg (by omega)])
  ·rw [Bg (dF (by omega)),List.drop_eq_nil_of_le (by omega)];unfold Dn;rw [List.map_nil,List.append_nil]
theorem Pz {F:Nat} {s:mosaic_Spec} {k:mosaic_Key} {r:mosaic_Radar} (hF:200≤F) (hs:GS F s) (hk:okK s k) (hrk:lkM (radM s) k.Name=some r) :
  ∃V,Gf F r.Site k.Tilt s.Grid=some (V,0)∧V.length=pix s∧Kf F s ⟨k.Name,k.Tilt⟩=V.map (N9 s k.Tilt r):=by
 obtain ⟨v1,v2,_,_,_⟩:=hs.r _ _ hrk;obtain ⟨V,e,hl⟩:=X2 (F:=F) hF v2 v1 hs.g hk.2.1;refine ⟨V,e,hl,?_⟩;unfold Kf;dsimp only;rw [hrk,P3,e,P3];rfl
theorem Sv {F:Nat} {s:mosaic_Spec} {k:mosaic_Key} (hF:200≤F) (hs:GS F s) (hk:okK s k):(Kf F s ⟨k.Name,k.Tilt⟩).length=pix s:=by
 obtain ⟨r,hr⟩:=hk.1;obtain ⟨V,_,hl,e⟩:=Pz hF hs hk hr;rw [e,List.length_map,hl]
theorem Xl {F:Nat} {s:mosaic_Spec} {N:mosaic_Node} {k:mosaic_Key} (hF:1000≤F) (hs:GS F s) (hsp:N.spec=s) (hr:N.radars=radM s) (hl:LV F s N.looks) (hk:okK s k) :
  ∃L,Dl F N k=some (Kf F s ⟨k.Name,k.Tilt⟩,L)∧LV F s L:=by
 obtain ⟨r,hrk⟩:=hk.1;obtain ⟨V,e,hV,eb⟩:=Pz (F:=F) (by omega) hs hk hrk;have h2:=hs.small;unfold Dl
 cases hq:lkM N.looks (mosaic_where.mk k.Name k.Tilt) with
 | some l =>
  rw [Cx (c:=(some l).isSome) rfl,P3,hl _ _ hq];exact ⟨_,rfl,hl⟩
 | none =>
  rw [Bg (c:=(none:Option (List api_Span)).isSome) rfl,hr,hrk,P3,hsp,show (api_Site.mk r.Site.Name r.Site.X r.Site.Y r.Site.Z r.Site.Rose r.Site.Gates r.Site.Step r.Site.Width)=r.Site from rfl,e,sbd];have:=W6 (F:=F) hs hsp hr hk hrk (V:=V) (by omega) F 0 [] (by omega) (by omega) (by simp);rw [List.drop_zero,List.nil_append,←eb] at this;refine ⟨_,this,?_⟩;intro w l hw;rw [Mh] at hw
  by_cases h:w=mosaic_where.mk k.Name k.Tilt
  ·rw [if_pos h] at hw;cases hw;rw [h]
  ·rw [if_neg h] at hw;exact hl _ _ hw
def Sb (s:mosaic_Spec) (k:mosaic_Key):api_Span:=((lkM (radM s) k.Name).getD default).Offset
def fitB (s:mosaic_Spec) (N:mosaic_Node) (t:Int) (k:mosaic_Key):Bool:=decide ((kl N.kept k).length=1∧k.Time+(Sb s k).Hi≤t∧t-k.Time-(Sb s k).Lo≤s.Age)
def whK (k:mosaic_Key):mosaic_where:=⟨k.Name,k.Tilt⟩
def Pc (s:mosaic_Spec) (N:mosaic_Node) (t:Int) (B:List (mosaic_where×mosaic_Key)) (L:List mosaic_Key):List (mosaic_where×mosaic_Key):=L.foldl (fun B k=>if fitB s N t k then upM B (whK k) k else B) B
def Q5 (B:List (mosaic_where×mosaic_Key)) (k:mosaic_Key):Bool:=decide (lkM B (whK k)=some k)
def Dp (F:Nat) (s:mosaic_Spec) (N:mosaic_Node) (k:mosaic_Key):mosaic_used:=⟨k,((kl N.kept k)[0]?).getD [],Kf F s (whK k)⟩
theorem baE (a b:ByteArray):(a==b)=true↔a=b:=by
 obtain ⟨a⟩:=a;obtain ⟨b⟩:=b;constructor
 ·intro h;have:(a==b)=true:=h;rw [beq_iff_eq] at this;rw [this]
 ·intro h
  cases h
  exact (beq_self_eq_true a:_)
theorem Z0 (x k:mosaic_Key):((x.Name==k.Name)&&(((x.Tilt:Int)==k.Tilt)&&(((x.Time:Int)==k.Time)&&true)))=decide (x=k):=by
 obtain ⟨n,t,u⟩:=x;obtain ⟨n',t',u'⟩:=k;dsimp only
 by_cases h:n=n'∧t=t'∧u=u'
 ·obtain ⟨rfl,rfl,rfl⟩:=h;rw [(baE n n).2 rfl];simp
 ·rw [dF (by simpa using h)]
  cases h1:(n==n') with
  | false=>rfl
  | true =>
   cases h2:(t==t') with
   | false=>rfl
   | true =>
    cases h3:(u==u') with
    | false=>rfl
    | true=>exact absurd ⟨(baE _ _).1 h1,by simpa using h2,by simpa using h3⟩ h
theorem Wu {F:Nat} {s:mosaic_Spec} {N:mosaic_Node} {B:List (mosaic_where×mosaic_Key)} {L:List mosaic_Key} (hF:1000≤F) (hs:GS F s) (h:NI F s N) (hL:∀k∈L,okK s k∧kl N.kept k≠[]) (hl:L.length≤10000) :
  ∀(n i:Nat) (lk:List (mosaic_where×List api_Span)) (acc:List mosaic_used),i≤L.length→L.length-i<n→acc.length≤i→LV F s lk →
   ∃lk',C1 F N B L n lk (i:Int) acc=some (acc++((L.drop i).filter (Q5 B)).map (Dp F s N),lk')∧LV F s lk':=by
 intro n
 induction n with
 | zero=>intro i lk acc _ h;omega
 | succ n ih =>
  intro i lk acc hi hn ha hlk;rw [C1];unfold Ei
  by_cases hc:i<L.length
  ·obtain ⟨hk,hne⟩:=hL _ (List.getElem_mem hc);rw [Cx (dT (by omega)),F1 i L[i] rfl (List.getElem?_eq_getElem hc),List.drop_eq_getElem_cons hc,Z0];have hx:decide ((lkM B (mosaic_where.mk L[i].Name L[i].Tilt)).getD (mosaic_Key.mk ByteArray.empty 0 0)=L[i])=Q5 B L[i]:=by
    unfold Q5 whK
    cases e:lkM B (mosaic_where.mk L[i].Name L[i].Tilt) with
    | some x=>rw [P3];congr 1;simp
    | none =>
     rw [dF,dF]
     ·simp
     ·intro e0;obtain ⟨r,hr⟩:=hk.1;have:(ByteArray.empty)=L[i].Name:=congrArg (·.Name) e0;exact (hs.r _ _ hr).2.2.2.1 this.symm
   rw [hx]
   cases hb:Q5 B L[i] with
   | true =>
    obtain ⟨lk',e,hlk'⟩:=Xl (N:=mosaic_Node.mk N.spec N.radars N.horizon N.kept N.count lk) hF hs h.spec h.radars hlk hk;obtain ⟨v,vs,hv⟩:=List.exists_cons_of_ne_nil hne;rw [cond_true,show (lkM N.kept L[i]).getD []=kl N.kept L[i] from rfl,F1 (l:=kl N.kept L[i]) (i:=0) 0 v rfl (by rw [hv];rfl),e,sbd,Mp (by simp;omega) (by decide)];unfold Cq;rw [ckb (by omega),List.filter_cons_of_pos (by exact hb)];obtain ⟨lk2,e2,h2⟩:=ih (i+1) lk' (acc++[Dp F s N L[i]]) (by omega) (by omega) (by simp;omega) hlk';refine ⟨lk2,?_,h2⟩;rw [List.append_assoc,List.singleton_append] at e2;have eu:mosaic_used.mk L[i] v (Kf F s ⟨L[i].Name,L[i].Tilt⟩)=Dp F s N L[i]:=by unfold Dp whK;rw [hv];rfl
    show C1 F N B L n lk' _ (acc++[mosaic_used.mk L[i] v (Kf F s ⟨L[i].Name,L[i].Tilt⟩)])=_;rw [eu];exact e2
   | false =>
    rw [cond_false];unfold Cq;rw [ckb (by omega),List.filter_cons_of_neg (by rw [hb];decide)];exact ih (i+1) lk acc (by omega) (by omega) (by omega) hlk
  ·rw [Bg (dF (by omega)),List.drop_eq_nil_of_le (by omega)];exact ⟨lk,by simp [Ek],hlk⟩
theorem Xq {F:Nat} {s:mosaic_Spec} {N:mosaic_Node} {t:Int} {L:List mosaic_Key} (hs:GS F s) (h:NI F s N) (ht:0≤t∧t≤1000000000000) (hL:∀k∈L,okK s k) (hl:L.length≤10000) :
  ∀(n i:Nat) (B:List (mosaic_where×mosaic_Key)),i≤L.length→L.length-i<n→C2 F N t L n B (i:Int)=Cp F N (Pc s N t B (L.drop i)):=by
 intro n
 induction n with
 | zero=>intro i B _ h;omega
 | succ n ih =>
  intro i B hi hn;rw [C2];unfold Ej
  by_cases hc:i<L.length
  ·have hk:=hL _ (List.getElem_mem hc);obtain ⟨r,hr⟩:=hk.1;obtain ⟨_,_,ho,_,_⟩:=hs.r _ _ hr;have htm:=hk.2.2;have hag:=hs.age;have eo:Sb s L[i]=r.Offset:=by unfold Sb;rw [hr];rfl
   rw [Cx (dT (by omega)),F1 i L[i] rfl (List.getElem?_eq_getElem hc),List.drop_eq_getElem_cons hc,h.radars,hr,P3,show (lkM N.kept L[i]).getD []=kl N.kept L[i] from rfl,h.spec];have fin:∀C,Cr (i:Int) (C2 F N t L n) C=Cp F N (Pc s N t C (L.drop (i+1))):=by
    intro C;unfold Cr;rw [ckb (by omega)];exact ih (i+1) C (by omega) (by omega)
   have step:Pc s N t B (L[i]::L.drop (i+1))=Pc s N t (if fitB s N t L[i] then upM B (whK L[i]) L[i] else B) (L.drop (i+1)):=rfl;rw [step]
   by_cases h1:(kl N.kept L[i]).length=1
   ·rw [h1,show (((1:Nat):Int)==1)=true from rfl,gdT (g:=(true==true&&true)) rfl,ckb (by omega)]
    by_cases h2:L[i].Time+r.Offset.Hi≤t
    ·rw [dT h2,gdT (g:=((bif true then true else false)==true&&true)) rfl,ckb (by omega),gdT (g:=((bif true then true else false)==true&&true)) rfl,ckb (by omega)]
     by_cases h3:t-L[i].Time-r.Offset.Lo≤s.Age
     ·rw [dT h3,Cx (c:=bif (bif true then true else false) then true else false) rfl,fin];have hf:fitB s N t L[i]=true:=by unfold fitB;rw [eo];exact dT ⟨h1,h2,h3⟩
      rw [hf,if_pos rfl];rfl
     ·rw [dF h3,Bg (c:=bif (bif true then true else false) then false else false) rfl,fin];have hf:fitB s N t L[i]=false:=by unfold fitB;rw [eo];exact dF fun x=>h3 x.2.2
      rw [hf];rfl
    ·rw [dF h2,gdF (g:=((bif true then false else false)==true&&true)) rfl,sbd,gdF (g:=((bif true then false else false)==true&&true)) rfl,sbd,Bg (c:=bif (bif true then false else false) then _ else false) rfl,fin];have hf:fitB s N t L[i]=false:=by unfold fitB;rw [eo];exact dF fun x=>h2 x.2.1
     rw [hf];rfl
   ·have e1:((((kl N.kept L[i]).length:Nat):Int)==1)=false:=by
     have:¬(((kl N.kept L[i]).length:Nat):Int)=1:=by omega
     simpa using this
    rw [e1,gdF (g:=(false==true&&true)) rfl,sbd,gdF (g:=((bif false then _ else false)==true&&true)) rfl,sbd,gdF (g:=((bif false then _ else false)==true&&true)) rfl,sbd,Bg (c:=bif (bif false then _ else false) then _ else false) rfl,fin];have hf:fitB s N t L[i]=false:=by unfold fitB;exact dF fun x=>h1 x.1
    rw [hf];rfl
  ·rw [Bg (dF (by omega)),List.drop_eq_nil_of_le (by omega)];rfl
def useK (s:mosaic_Spec) (N:mosaic_Node) (t:Int):List mosaic_Key:=(ksN N).filter (Q5 (Pc s N t [] (ksN N)))
theorem A09 {F:Nat} {s:mosaic_Spec} {N:mosaic_Node} {t:Int} (hF:1000≤F) (hs:GS F s) (h:NI F s N) (hn:tot N.kept<900) (ht:0≤t∧t≤1000000000000) :
  ∃L,Et F N t=some ((useK s N t).map (Dp F s N),L)∧LV F s L:=by
 have h1:=h.small;have h2:=(Hl N).1;unfold Et;rw [Nm (by omega),sbd];have e:=Xq (F:=F) (N:=N) (t:=t) (L:=ksN N) hs h ht (fun k hk=>(h.key hk).1) (by omega) F 0 [] (by omega) (by omega);rw [List.drop_zero] at e;obtain ⟨L,e2,hL⟩:=Wu (B:=Pc s N t [] (ksN N)) hF hs h (L:=ksN N) (fun k hk=>h.key hk) (by omega) F 0 N.looks [] (by omega) (by omega) (by simp) h.looks;rw [List.drop_zero,List.nil_append] at e2;refine ⟨L,?_,hL⟩;refine e.trans ?_;unfold Cp;rw [Nm (by omega),sbd];exact e2
theorem Xp {F:Nat} {s:mosaic_Spec} {N:mosaic_Node} {t:Int}:∀(L:List mosaic_Key) (B:List (mosaic_where×mosaic_Key)) (w:mosaic_where),L.Pairwise (fun x y=>¬KLt y x) →
  (∀k,lkM B w=some k→whK k=w∧∀k'∈L,¬KLt k' k) →
  (∀k,lkM (Pc s N t B L) w=some k→whK k=w∧(lkM B w=some k∨(k∈L∧fitB s N t k=true))∧∀k'∈L,fitB s N t k'=true→whK k'=w→¬KLt k k') ∧
  (lkM (Pc s N t B L) w=none→lkM B w=none∧∀k'∈L,fitB s N t k'=true→whK k'≠w):=by
 intro L
 induction L with
 | nil=>intro B w _ hB;exact ⟨fun k hk=>⟨(hB k hk).1,.inl hk,fun _ h=>by cases h⟩,fun hk=>⟨hk,fun _ h=>by cases h⟩⟩
 | cons x L ih =>
  intro B w hp hB;obtain ⟨hx,hp⟩:=List.pairwise_cons.1 hp;have e:Pc s N t B (x::L)=Pc s N t (if fitB s N t x then upM B (whK x) x else B) L:=rfl;rw [e]
  by_cases hf:fitB s N t x=true∧whK x=w
  ·obtain ⟨hf,hw⟩:=hf;have hlk:lkM (upM B (whK x) x) w=some x:=by rw [←hw,Xk]
   rw [hf,if_pos rfl];obtain ⟨i1,i2⟩:=ih (upM B (whK x) x) w hp (fun k hk=>by rw [hlk] at hk;cases hk;exact ⟨hw,hx⟩)
   constructor
   ·intro k hk;obtain ⟨a1,a2,a3⟩:=i1 k hk;refine ⟨a1,?_,?_⟩
    ·rcases a2 with a2|a2
     ·rw [hlk] at a2;cases a2;exact .inr ⟨.head _,hf⟩
     ·exact .inr ⟨.tail _ a2.1,a2.2⟩
    ·intro k' hk' hfk hwk;rcases List.mem_cons.1 hk' with rfl|hk'
     ·rcases a2 with a2|a2
      ·rw [hlk] at a2;cases a2;exact R6 _
      ·exact hx _ a2.1
     ·exact a3 k' hk' hfk hwk
   ·intro hk;have:=(i2 hk).1;rw [hlk] at this;cases this
  ·have hlk:lkM (if fitB s N t x then upM B (whK x) x else B) w=lkM B w:=by
    by_cases hfx:fitB s N t x=true
    ·rw [hfx,if_pos rfl,Mh,if_neg (fun e=>hf ⟨hfx,e.symm⟩)]
    ·rw [if_neg hfx]
   obtain ⟨i1,i2⟩:=ih (if fitB s N t x then upM B (whK x) x else B) w hp (fun k hk=>by rw [hlk] at hk;exact ⟨(hB k hk).1,fun k' hk'=>(hB k hk).2 k' (.tail _ hk')⟩);constructor
   ·intro k hk;obtain ⟨a1,a2,a3⟩:=i1 k hk;refine ⟨a1,?_,?_⟩
    ·rcases a2 with a2|a2
     ·rw [hlk] at a2;exact .inl a2
     ·exact .inr ⟨.tail _ a2.1,a2.2⟩
    ·intro k' hk' hfk hwk;rcases List.mem_cons.1 hk' with rfl|hk'
     ·exact absurd ⟨hfk,hwk⟩ hf
     ·exact a3 k' hk' hfk hwk
   ·intro hk;obtain ⟨b1,b2⟩:=i2 hk;rw [hlk] at b1;refine ⟨b1,fun k' hk' hfk hwk=>?_⟩;rcases List.mem_cons.1 hk' with rfl|hk'
    ·exact hf ⟨hfk,hwk⟩
    ·exact b2 k' hk' hfk hwk
theorem Ry {x y:mosaic_Key} (hw:whK x=whK y):KLt x y↔x.Time<y.Time:=by
 obtain ⟨n,t,u⟩:=x;obtain ⟨n',t',u'⟩:=y;simp only [whK,mosaic_where.mk.injEq] at hw;obtain ⟨rfl,rfl⟩:=hw;unfold KLt;constructor
 ·rintro (h|⟨_,h|⟨_,h⟩⟩)
  ·exact h
  ·exact absurd h (Lp _)
  ·exact absurd h (Int.lt_irrefl _)
 ·exact .inl
theorem He {s:mosaic_Spec} {N:mosaic_Node} {t:Int} {k:mosaic_Key}:k∈useK s N t↔k∈ksN N∧fitB s N t k=true∧∀k'∈ksN N,fitB s N t k'=true→whK k'=whK k→k'.Time≤k.Time:=by
 have hn:=Xp (F:=0) (s:=s) (N:=N) (t:=t) (ksN N) [] (whK k) (Hl N).2.2 (fun k hk=>by cases hk)
 unfold useK;rw [List.mem_filter];unfold Q5;rw [decide_eq_true_iff];constructor
 ·rintro ⟨h1,h2⟩;obtain ⟨_,a2,a3⟩:=hn.1 k h2;refine ⟨h1,?_,fun k' hk' hf hw=>?_⟩
  ·rcases a2 with a2|a2
   ·cases a2
   ·exact a2.2
  ·have:=a3 k' hk' hf hw;rw [Ry hw.symm] at this;omega
 ·rintro ⟨h1,h2,h3⟩;refine ⟨h1,?_⟩
  cases e:lkM (Pc s N t [] (ksN N)) (whK k) with
  | none=>exact absurd rfl ((hn.2 e).2 k h1 h2)
  | some x =>
   obtain ⟨a1,a2,a3⟩:=hn.1 x e;rcases a2 with a2|a2
   ·cases a2
   ·have b1:=h3 x a2.1 a2.2 a1;have b2:=a3 k h1 h2 rfl;rw [Ry a1] at b2
    congr 1
    obtain ⟨n,t,u⟩:=x;obtain ⟨n',t',u'⟩:=k;simp only [whK,mosaic_where.mk.injEq] at a1;obtain ⟨rfl,rfl⟩:=a1;have:u=u':=by
     simp only at b1 b2;omega
    rw [this]
end Go.Proofs.YtkbjbnkkfifbmaaGreat
namespace Go.Proofs.YtkbjbnkkfifbmaaGreat
open Go Go.RowKit Go.Eng
set_option maxRecDepth 10000
set_option linter.unusedVariables false
set_option linter.unusedSimpArgs false
structure C3 {α:Type} (c:α→α→Int):Prop where
 tr:∀x y z,c x y<0→c y z<0→c x z<0
 e1:∀x y z,c x y=0→c x z=c y z
 e2:∀x y z,c y z=0→c x y=c x z
 rf:∀x,c x x=0
 ay:∀x y,c x y<0∨c x y=0∨c y x<0
def Mu {α:Type} (c d:α→α→Int) (x y:α):Int:=if c x y≠0 then c x y else d x y
theorem Nr {α:Type} {c d:α→α→Int} (hc:C3 c) (hd:C3 d):C3 (Mu c d):=by
 refine ⟨fun x y z=>?_,fun x y z=>?_,fun x y z=>?_,fun x=>?_,fun x y=>?_⟩
 ·unfold Mu;intro h1 h2
  by_cases a:c x y=0
  ·rw [if_neg (by simpa using a)] at h1;have e:=hc.e1 x y z a;rw [e]
   by_cases b:c y z=0
   ·rw [if_neg (by simpa using b)] at h2 ⊢;exact hd.tr x y z h1 h2
   ·rw [if_pos b] at h2 ⊢;exact h2
  ·rw [if_pos a] at h1
   by_cases b:c y z=0
   ·have e:=hc.e2 x y z b;rw [←e,if_pos a];exact h1
   ·rw [if_pos b] at h2;have:=hc.tr x y z h1 h2;rw [if_pos (by omega)];exact this
 ·unfold Mu;intro h1
  by_cases a:c x y=0
  ·rw [if_neg (by simpa using a)] at h1;rw [hc.e1 x y z a,hd.e1 x y z h1]
  ·rw [if_pos a] at h1;exact absurd h1 a
 ·unfold Mu;intro h1
  by_cases a:c y z=0
  ·rw [if_neg (by simpa using a)] at h1;rw [hc.e2 x y z a,hd.e2 x y z h1]
  ·rw [if_pos a] at h1;exact absurd h1 a
 ·unfold Mu;rw [if_neg (by simpa using hc.rf x),hd.rf]
 ·unfold Mu;rcases hc.ay x y with h|h|h
  ·left;rw [if_pos (by omega)];exact h
  ·rw [if_neg (by simpa using h)];have h':c y x=0:=by have:=hc.e1 x y x h;rw [hc.rf] at this;exact this.symm
   rw [if_neg (by simpa using h')];exact hd.ay x y
  ·right;right;rw [if_pos (by omega)];exact h
theorem Vk {α:Type} (f:α→Int):C3 (fun x y=>c3 (f x) (f y)):=by
 refine ⟨fun x y z=>?_,fun x y z=>?_,fun x y z=>?_,fun x=>?_,fun x y=>?_⟩<;>unfold c3<;>(repeat' split)<;>omega
theorem Yu {α:Type} (f:α→Int):C3 (fun x y=>c3 (f y) (f x)):=by
 refine ⟨fun x y z=>?_,fun x y z=>?_,fun x y z=>?_,fun x=>?_,fun x y=>?_⟩<;>unfold c3<;>(repeat' split)<;>omega
theorem Jx {a b:ByteArray}:c3s a b<0↔a.toList<b.toList:=by
 unfold c3s
 by_cases h:N4 a b=true
 ·rw [if_pos h];exact ⟨fun _=>(Jn a b).1 h,fun _=>by decide⟩
 ·rw [if_neg h];refine ⟨fun h2=>?_,fun h2=>absurd ((Jn a b).2 h2) h⟩
  split at h2<;>simp at h2
theorem Jw {a b:ByteArray}:c3s a b=0↔a.toList=b.toList:=by
 unfold c3s
 by_cases h:N4 a b=true
 ·rw [if_pos h];refine ⟨fun h2=>by simp at h2,fun h2=>?_⟩;have:=(Jn a b).1 h;rw [h2] at this;exact absurd this (Lp _)
 ·rw [if_neg h]
  by_cases g:Ml a b=true
  ·rw [if_pos g];exact ⟨fun h2=>by simp at h2,fun h2=>absurd h2 ((Mm a b).1 g).2⟩
  ·rw [if_neg g];refine ⟨fun _=>?_,fun _=>rfl⟩;refine Decidable.by_contra fun hn=>g ((Mm a b).2 ⟨fun hl=>h ((Jn a b).2 hl),hn⟩)
theorem Rm {a b c d:ByteArray} (h:a.toList=b.toList) (k:c.toList=d.toList):c3s a c=c3s b d:=by
 rcases Ta a.toList c.toList with e|e|e
 ·have h1:c3s a c<0:=Jx.2 e;have h2:c3s b d<0:=Jx.2 (by rw [←h,←k];exact e);unfold c3s at *
  split at h1<;>(try split at h1)<;>split at h2<;>(try split at h2)<;>simp_all
 ·rw [Jw.2 e,Jw.2 (by rw [←h,←k];exact e)]
 ·have h1:¬c3s a c<0:=fun x=>absurd (U6 e (Jx.1 x)) (Lp _);have h1':c3s a c≠0:=fun x=>by rw [Jw.1 x] at e;exact Lp _ e
  have h2:¬c3s b d<0:=fun x=>by have:=Jx.1 x;rw [←h,←k] at this;exact absurd (U6 e this) (Lp _)
  have h2':c3s b d≠0:=fun x=>by have:=Jw.1 x;rw [←h,←k] at this;rw [this] at e;exact Lp _ e
  unfold c3s at *
  split at h1<;>(try split at h1)<;>split at h2<;>(try split at h2)<;>simp_all
theorem Yv {α:Type} (f:α→ByteArray):C3 (fun x y=>c3s (f x) (f y)):=by
 refine ⟨fun x y z h1 h2=>Jx.2 (U6 (Jx.1 h1) (Jx.1 h2)),fun x y z h=>Rm (Jw.1 h) rfl,fun x y z h=>Rm rfl (Jw.1 h),fun x=>Jw.2 rfl,fun x y=>?_⟩;rcases Ta (f x).toList (f y).toList with e|e|e
 ·exact .inl (Jx.2 e)
 ·exact .inr (.inl (Jw.2 e))
 ·exact .inr (.inr (Jx.2 e))
abbrev BK:=api_Span×mosaic_Key
def Qv (x y:BK):Int:=orL [c3 x.1.Hi y.1.Hi,c3 x.1.Lo y.1.Lo,c3 y.2.Time x.2.Time,c3s x.2.Name y.2.Name,c3 x.2.Tilt y.2.Tilt]
theorem Tt:Qv=Mu (fun x y=>c3 x.1.Hi y.1.Hi) (Mu (fun x y=>c3 x.1.Lo y.1.Lo) (Mu (fun x y=>c3 y.2.Time x.2.Time) (Mu (fun x y=>c3s x.2.Name y.2.Name) (fun x y=>c3 x.2.Tilt y.2.Tilt)))):=by
 funext x y
 unfold Qv Mu;show (if _ then _ else if _ then _ else if _ then _ else if _ then _ else if c3 x.2.Tilt y.2.Tilt≠0 then c3 x.2.Tilt y.2.Tilt else 0)=_;have:(if c3 x.2.Tilt y.2.Tilt≠0 then c3 x.2.Tilt y.2.Tilt else 0)=c3 x.2.Tilt y.2.Tilt:=by split<;>omega
 rw [this]
theorem betC_ok:C3 Qv:=by
 rw [Tt];exact Nr (Vk fun x:BK=>x.1.Hi) (Nr (Vk fun x:BK=>x.1.Lo) (Nr (Yu fun x:BK=>x.2.Time) (Nr (Yv fun x:BK=>x.2.Name) (Vk fun x:BK=>x.2.Tilt))))
theorem Ui (a b:ByteArray):B7 a b=c3s a b:=by
 unfold B7 Bc;have:∀c:ByteArray,sEq c c=true:=fun c=>by unfold sEq;simp
 rw [this,this,Bg (c:=!true) rfl,Bg (c:=!true) rfl];unfold c3s
 cases N4 a b with
 | true=>rfl
 | false=>cases Ml a b<;>rfl
def Ly (l:List mosaic_used) (p:Nat) (x:mosaic_Pixel):Prop :=
 (x=⟨⟨0,1000000⟩,⟨ByteArray.empty,0,0⟩⟩∧∀u∈l,∀b,u.bands[p]? = some b→¬b.Lo≤b.Hi) ∨
 ∃u∈l,∃b v,u.bands[p]? = some b∧b.Lo≤b.Hi∧u.vals[p]? = some v∧x=⟨v,u.Key⟩∧∀u'∈l,∀b',u'.bands[p]? = some b'→b'.Lo≤b'.Hi→¬Qv (b',u'.Key) (b,u.Key)<0
def Nl (l:List mosaic_used) (p i:Nat) (q:Int):Prop :=
 (q=-1∧∀j u b,j<i→l[j]? = some u→u.bands[p]? = some b→¬b.Lo≤b.Hi) ∨
 ∃(m:Nat) (u:mosaic_used) (b:api_Span),q=m∧m<i∧l[m]? = some u∧u.bands[p]? = some b∧b.Lo≤b.Hi∧∀j u' b',j<i→l[j]? = some u'→u'.bands[p]? = some b'→b'.Lo≤b'.Hi→¬Qv (b',u'.Key) (b,u.Key)<0
abbrev YU:=List mosaic_used×List (mosaic_where×List api_Span)
theorem Vg {F P:Nat} {Y:YU} {p:Nat} {acc:List mosaic_Pixel} {k2:Int→List mosaic_Pixel→Option (List mosaic_Pixel×Int×List (mosaic_where×List api_Span))} (hF:100≤F) (hY:∀u∈Y.1,u.bands.length=P∧u.vals.length=P) (hp:p<P) (hl:Y.1.length≤10000) :
  ∀(n i:Nat) (q:Int),i≤Y.1.length→Y.1.length-i<n→Nl Y.1 p i q→∃q',Bk F Y p acc k2 n q (i:Int)=Bt Y p acc k2 q'∧Nl Y.1 p Y.1.length q':=by
 intro n
 induction n with
 | zero=>intro i q _ h;omega
 | succ n ih =>
  intro i q hi hn hq;rw [Bk];unfold Dw
  by_cases hc:i<Y.1.length
  ·have hu:=hY _ (List.getElem_mem hc);have hgu:=List.getElem?_eq_getElem hc;obtain ⟨u,hue⟩:∃u,u=Y.1[i]:=⟨_,rfl⟩;rw [←hue] at hu hgu;obtain ⟨b,hb⟩:∃b,u.bands[p]? = some b:=⟨_,List.getElem?_eq_getElem (show p<u.bands.length by omega)⟩;rw [Cx (dT (by omega)),F1 i u rfl hgu,F1 p b rfl hb];have fin:∀q',Nl Y.1 p (i+1) q'→∃q2,Bj (i:Int) (Bk F Y p acc k2 n) q'=Bt Y p acc k2 q2∧Nl Y.1 p Y.1.length q2:=by
    intro q' hq';unfold Bj;rw [ckb (by omega)];exact ih (i+1) q' (by omega) (by omega) hq'
   have one:∀j u',j<i+1→Y.1[j]? = some u'→j<i∨(j=i∧u'=u):=by
    intro j u' hj hg
    by_cases h:j<i
    ·exact .inl h
    ·have:j=i:=by omega
     subst this;rw [hgu] at hg;cases hg
     exact .inr ⟨rfl,rfl⟩
   unfold H3
   by_cases hs:b.Lo≤b.Hi
   ·rw [Bg (by rw [dT hs];rfl)];rcases hq with ⟨rfl,h0⟩|⟨m,v,b2,rfl,hm,hv,hb2,hs2,h0⟩
    ·rw [Cx (dT (by omega))];refine fin _ (.inr ⟨i,u,b,rfl,by omega,hgu,hb,hs,?_⟩);intro j u' b' hj hg hb' hs';rcases one j u' hj hg with h|⟨rfl,rfl⟩
     ·exact absurd hs' (h0 j u' b' h hg hb')
     ·rw [hb] at hb';cases hb'
      rw [betC_ok.rf];omega
    ·rw [Bg (dF (by omega)),F1 m v rfl hv,F1 p b rfl hb,F1 p b2 rfl hb2,F1 p b rfl hb,F1 p b2 rfl hb2,Ge,Ge,Ge,Ge,Ui,Yc _ (by simp;omega) (by simp),sbd,
      show orL [c3 b.Hi b2.Hi,c3 b.Lo b2.Lo,c3 v.Key.Time u.Key.Time,c3s u.Key.Name v.Key.Name,c3 u.Key.Tilt v.Key.Tilt]=Qv (b,u.Key) (b2,v.Key) from rfl]
     by_cases hlt:Qv (b,u.Key) (b2,v.Key)<0
     ·rw [Cx (dT hlt)];refine fin _ (.inr ⟨i,u,b,rfl,by omega,hgu,hb,hs,?_⟩);intro j u' b' hj hg hb' hs' hbt;rcases one j u' hj hg with h|⟨rfl,rfl⟩
      ·exact h0 j u' b' h hg hb' hs' (betC_ok.tr _ _ _ hbt hlt)
      ·rw [hb] at hb';cases hb'
       rw [betC_ok.rf] at hbt;omega
     ·rw [Bg (dF hlt)];refine fin _ (.inr ⟨m,v,b2,rfl,by omega,hv,hb2,hs2,?_⟩);intro j u' b' hj hg hb' hs';rcases one j u' hj hg with h|⟨rfl,rfl⟩
      ·exact h0 j u' b' h hg hb' hs'
      ·rw [hb] at hb';cases hb'
       exact hlt
   ·rw [Cx (by rw [dF hs];rfl)];refine fin q ?_;rcases hq with ⟨rfl,h0⟩|⟨m,v,b2,rfl,hm,hv,hb2,hs2,h0⟩
    ·refine .inl ⟨rfl,fun j u' b' hj hg hb'=>?_⟩;rcases one j u' hj hg with h|⟨rfl,rfl⟩
     ·exact h0 j u' b' h hg hb'
     ·rw [hb] at hb';cases hb';exact hs
    ·refine .inr ⟨m,v,b2,rfl,by omega,hv,hb2,hs2,fun j u' b' hj hg hb' hs'=>?_⟩;rcases one j u' hj hg with h|⟨rfl,rfl⟩
     ·exact h0 j u' b' h hg hb' hs'
     ·rw [hb] at hb';cases hb';exact absurd hs' hs
  ·rw [Bg (dF (by omega))];have:i=Y.1.length:=by omega
   subst this;exact ⟨q,rfl,hq⟩
theorem Xn {F P:Nat} {Y:YU} (hF:100≤F) (hY:∀u∈Y.1,u.bands.length=P∧u.vals.length=P) (hl:Y.1.length<F) (hl2:Y.1.length≤10000) (hP:P≤10000) :
  ∀(n p:Nat) (acc:List mosaic_Pixel),p≤P→P-p<n→acc.length=p→(∀j x,acc[j]? = some x→Ly Y.1 j x)→∃out,B4 F Y (P:Int) n (p:Int) acc=some (out,0,Y.2)∧out.length=P∧∀j x,out[j]? = some x→Ly Y.1 j x:=by
 intro n
 induction n with
 | zero=>intro p acc _ h;omega
 | succ n ih =>
  intro p acc hp hn ha hx;rw [B4];unfold Dv
  by_cases hc:p<P
  ·rw [Cx (dT (by omega))];obtain ⟨q,e,hq⟩:=Vg (F:=F) (P:=P) (Y:=Y) (p:=p) (acc:=acc) (k2:=B4 F Y (P:Int) n) hF hY hc hl2 F 0 (-1) (by omega) (by omega) (.inl ⟨rfl,fun j u b h=>by omega⟩);have e':Bk F Y (p:Int) acc (B4 F Y (P:Int) n) F (-1) 0=Bt Y p acc (B4 F Y (P:Int) n) q:=e;rw [e'];have fin:∀x:mosaic_Pixel,Ly Y.1 p x→∃out,Ch (p:Int) acc (B4 F Y (P:Int) n) x.Value_.Lo x.Value_.Hi x.Key.Name x.Key.Tilt x.Key.Time=some (out,0,Y.2)∧out.length=P∧∀j x,out[j]? = some x→Ly Y.1 j x:=by
    intro x hpx;unfold Ch Dy;rw [Mp (by simp;omega) (by decide),ckb (by omega)];refine ih (p+1) (acc++[x]) (by omega) (by omega) (by simp;omega) (fun j y hj=>?_)
    by_cases h:j<acc.length
    ·rw [List.getElem?_append_left h] at hj;exact hx j y hj
    ·rw [List.getElem?_append_right (by omega)] at hj;have:j=p:=by
      have:=(List.getElem?_eq_some_iff.1 hj).1;simp at this;omega
     subst this;rw [ha,Nat.sub_self] at hj
     cases hj;exact hpx
   unfold Bt;rcases hq with ⟨rfl,h0⟩|⟨m,u,b,rfl,hm,hu,hb,hs,h0⟩
   ·rw [Cx (dT (by omega))];refine fin ⟨⟨0,1000000⟩,⟨ByteArray.empty,0,0⟩⟩ (.inl ⟨rfl,fun u hu b hb=>?_⟩);obtain ⟨j,hj,rfl⟩:=List.mem_iff_getElem.1 hu;exact h0 j _ b hj (List.getElem?_eq_getElem hj) hb
   ·have hum:=List.mem_of_getElem? hu;obtain ⟨_,hvl⟩:=hY u hum;obtain ⟨v,hv⟩:∃v,u.vals[p]? = some v:=⟨_,List.getElem?_eq_getElem (by omega)⟩;rw [Bg (dF (by omega)),F1 m u rfl hu,F1 p v rfl hv];refine fin ⟨v,u.Key⟩ (.inr ⟨u,hum,b,v,hb,hs,hv,rfl,fun u' hu' b' hb' hs'=>?_⟩);obtain ⟨j,hj,rfl⟩:=List.mem_iff_getElem.1 hu';exact h0 j _ b' hj (List.getElem?_eq_getElem hj) hb' hs'
  ·rw [Bg (dF (by omega))];unfold Dx;exact ⟨acc,rfl,by omega,hx⟩
theorem Ve {F:Nat} {N:mosaic_Node} {t:Int} (h0:0≤t∧t≤4294967296) (hh:N.horizon≤t):D5 F N t=some 0:=by
 unfold D5 Az;rw [sbd,cond_false,Jk h0,Bg (c:=!true) rfl,Bg (dF (by omega))]
theorem Wv {F:Nat} {s:mosaic_Spec} {N:mosaic_Node} {t:Int} (hF:1000≤F) (hs:GS F s) (h:NI F s N):∀u∈(useK s N t).map (Dp F s N),u.bands.length=pix s∧u.vals.length=pix s:=by
 intro u hu;obtain ⟨k,hk,rfl⟩:=List.mem_map.1 hu;have hk2:=(He.1 hk).1;obtain ⟨h1,h2⟩:=h.key hk2;refine ⟨Sv (by omega) hs h1,?_⟩;obtain ⟨v,vs,hv⟩:=List.exists_cons_of_ne_nil h2;show (((kl N.kept k)[0]?).getD []).length=_;rw [hv];exact h.kl_ok k v (by rw [hv];exact .head _)
theorem Qn {F:Nat} {s:mosaic_Spec} {N:mosaic_Node} {t:Int} (hF:1000≤F) (hs:GS F s) (h:NI F s N) (hn:tot N.kept<900) (ht:0≤t∧t≤4294967296) (hh:N.horizon≤t) :
  ∃out L,B1 F N t=some (out,0,L)∧LV F s L∧out.length=pix s∧∀p x,out[p]? = some x→Ly ((useK s N t).map (Dp F s N)) p x:=by
 obtain ⟨L,e,hL⟩:=A09 (t:=t) hF hs h hn (by omega);have hp:=Xt hs;have hsm:=hs.small;have hul:((useK s N t).map (Dp F s N)).length≤tot N.kept:=by
  rw [List.length_map];exact Nat.le_trans (List.length_filter_le _ _) h.small
 obtain ⟨out,e2,h1,h2⟩:=Xn (F:=F) (P:=pix s) (Y:=((useK s N t).map (Dp F s N),L)) (by omega) (Wv hF hs h) (by show ((useK s N t).map (Dp F s N)).length<F;omega) (by show ((useK s N t).map (Dp F s N)).length≤10000;omega) (by omega) F 0 [] (by omega) (by omega) rfl (fun j x hj=>by simp at hj);refine ⟨out,L,?_,hL,h1,h2⟩;unfold B1;rw [Ve ht hh,sbd,Bg (c:=(0:Int) != 0) rfl,e,sbd,h.spec,hp.1,ckb (by omega)];exact e2
end Go.Proofs.YtkbjbnkkfifbmaaGreat
namespace Go.Proofs.YtkbjbnkkfifbmaaGreat
open Go Go.RowKit Go.Eng
set_option maxRecDepth 10000
set_option linter.unusedVariables false
set_option linter.unusedSimpArgs false
theorem Fc {β:Type} {x y:Int} {f:Int→Option β} (h:y≠0):(D3 x y).bind f=f (x.tmod y):=by unfold D3;rw [if_neg h];rfl
theorem Zz (a b:ByteArray):sEq a b=decide (a=b):=by
 unfold sEq;obtain ⟨a⟩:=a;obtain ⟨b⟩:=b
 by_cases h:a=b
 ·subst h;simp
 ·rw [dF,dF]
  ·intro e;cases e;exact h rfl
  ·intro e;exact h (Array.toList_inj.1 e)
structure RG (F:Nat) (s:mosaic_Spec):Prop where
 g:VG s.Grid
 e:VE s.Earth
 age:1≤s.Age∧s.Age≤86400
 small:pix s≤500
 len:1≤s.Radars.length∧s.Radars.length≤32
 nd:(s.Radars.map (·.Site.Name)).Nodup
 ok:∀r∈s.Radars,VS r.Site∧beam_CheckSite F r.Site=some 0∧(-3600≤r.Offset.Lo∧r.Offset.Lo≤r.Offset.Hi∧r.Offset.Hi≤3600)∧r.Site.Name≠ByteArray.empty
def U0 (B:List (ByteArray×mosaic_Radar)) (l:List mosaic_Radar):List (ByteArray×mosaic_Radar):=l.foldl (fun B r=>upM B r.Site.Name r) B
theorem Vt:∀(l:List mosaic_Radar) (B:List (ByteArray×mosaic_Radar)) (n:ByteArray),(l.map (·.Site.Name)).Nodup→lkM (U0 B l) n=match l.find? (fun r=>r.Site.Name=n) with|some r=>some r|none=>lkM B n:=by
 intro l
 induction l with
 | nil=>intro B n _;rfl
 | cons x l ih =>
  intro B n hn;rw [List.map_cons,List.nodup_cons] at hn;have e:U0 B (x::l)=U0 (upM B x.Site.Name x) l:=rfl;rw [e,ih _ _ hn.2,List.find?_cons]
  by_cases h:x.Site.Name=n
  ·have hnone:l.find? (fun r=>r.Site.Name=n)=none:=by
    rw [List.find?_eq_none];intro r hr hrn;have hrn:r.Site.Name=n:=by simpa using hrn
    exact hn.1 (by rw [h,←hrn];exact List.mem_map_of_mem (f:=(·.Site.Name)) hr)
   rw [hnone,Mh,if_pos h.symm];simp [h]
  ·rw [Mh,if_neg (fun e=>h e.symm)];simp [h]
theorem N0 {F:Nat} {s:mosaic_Spec} (h:RG F s) (n:ByteArray):lkM (radM s) n=s.Radars.find? (fun r=>r.Site.Name=n):=by
 have:=Vt s.Radars [] n h.nd;unfold radM;refine this.trans ?_
 cases s.Radars.find? (fun r=>r.Site.Name=n)<;>rfl
theorem RG.gs {F:Nat} {s:mosaic_Spec} (h:RG F s):GS F s:=by
 refine ⟨h.g,h.e,h.age,h.small,fun n x hx=>?_⟩;rw [N0 h] at hx;have h1:=List.mem_of_find?_eq_some hx;have h2:x.Site.Name=n:=by simpa using List.find?_some hx
 obtain ⟨a,b,c,d⟩:=h.ok x h1;exact ⟨a,b,c,h2▸d,h2⟩
theorem RG.lk {F:Nat} {s:mosaic_Spec} (h:RG F s) {r:mosaic_Radar} (hr:r∈s.Radars):lkM (radM s) r.Site.Name=some r:=by
 rw [N0 h]
 cases e:s.Radars.find? (fun x=>x.Site.Name=r.Site.Name) with
 | none =>
  rw [List.find?_eq_none] at e;exact absurd (by simp) (e r hr)
 | some x =>
  have h1:=List.mem_of_find?_eq_some e;have h2:x.Site.Name=r.Site.Name:=by simpa using List.find?_some e
  obtain ⟨i,hi,rfl⟩:=List.mem_iff_getElem.1 h1;obtain ⟨j,hj,rfl⟩:=List.mem_iff_getElem.1 hr;have:=List.pairwise_iff_getElem.1 h.nd;rcases Nat.lt_trichotomy i j with hij|hij|hij
  ·exact absurd (by rw [List.getElem_map,List.getElem_map];exact h2) (this i j (by simpa using hi) (by simpa using hj) hij)
  ·subst hij;rfl
  ·exact absurd (by rw [List.getElem_map,List.getElem_map];exact h2.symm) (this j i (by simpa using hj) (by simpa using hi) hij)
def Sx (s:mosaic_Spec):mosaic_Node:=⟨s,radM s,0,[],0,[]⟩
theorem Uj {F:Nat} {s:mosaic_Spec}:NI F s (Sx s):=by
 refine ⟨rfl,rfl,.nil,?_,rfl,?_⟩
 ·intro p hp;cases hp
 ·intro w l h;cases h
theorem Uh {F:Nat} {s:mosaic_Spec} (h:RG F s):∀(n i:Nat) (B:List (ByteArray×Bool)),i≤s.Radars.length→s.Radars.length-i<n→(∀m b,lkM B m=some b→m∈(s.Radars.take i).map (·.Site.Name))→De F s n B (i:Int)=some 0:=by
 have hl:=h.len;intro n
 induction n with
 | zero=>intro i B _ h;omega
 | succ n ih =>
  intro i B hi hn hB;rw [De];unfold Fs
  by_cases hc:i<s.Radars.length
  ·obtain ⟨a,b,c,d⟩:=h.ok _ (List.getElem_mem hc);have hnew:lkM B s.Radars[i].Site.Name=none:=by
    cases e:lkM B s.Radars[i].Site.Name with
    | none=>rfl
    | some b =>
     have:=hB _ _ e;rw [List.map_take] at this;obtain ⟨j,hj,hje⟩:=List.mem_take_iff_getElem.1 this;have hp:=List.pairwise_iff_getElem.1 h.nd j i (by simp at hj ⊢;omega) (by simpa using hc) (by omega);exact absurd (by rw [hje];simp) hp
   rw [Cx (dT (by omega)),F1 i s.Radars[i] rfl (List.getElem?_eq_getElem hc),b,sbd,Bg (c:=(0:Int) != 0) rfl,hnew,Bg (c:=(none:Option Bool).getD false) rfl,P4 c,Bg (c:=!true) rfl,ckb (by omega)];refine ih (i+1) _ (by omega) (by omega) (fun m b hm=>?_);rw [Mh] at hm;rw [List.take_succ_eq_append_getElem hc,List.map_append,List.mem_append]
   by_cases e:m=s.Radars[i].Site.Name
   ·exact .inr (by simp [e])
   ·rw [if_neg e] at hm;exact .inl (hB _ _ hm)
  ·rw [Bg (dF (by omega))];rfl
theorem V8 {F:Nat} {s:mosaic_Spec} (hF:100≤F) (h:RG F s):G5 F s=some 0:=by
 have hl:=h.len;unfold G5;rw [Lx h.g,Bg (c:=(0:Int) != 0) rfl,P4 h.e,Jk h.age,Bg (c:=bif !true then true else !true) rfl,Bg (by
  have:¬((s.Radars.length:Nat):Int)=0:=by omega
  simpa using this),Bg (dF (by omega))]
 exact Uh h F 0 [] (by omega) (by omega) (fun m b hm=>by cases hm)
theorem Wd {F:Nat} {s:mosaic_Spec} {R:List mosaic_Radar} (hR:R.length≤1000):∀(n i:Nat) (B:List (ByteArray×mosaic_Radar)),i≤R.length→R.length-i<n→Ez s R n B (i:Int)=some (.ok (⟨⟨s.Grid,s.Earth,R,s.Age⟩,U0 B (R.drop i),0,[],0,[]⟩,0)):=by
 intro n
 induction n with
 | zero=>intro i B _ h;omega
 | succ n ih =>
  intro i B hi hn;rw [Ez];unfold Gx
  by_cases hc:i<R.length
  ·rw [Cx (dT (by omega)),F1 i R[i] rfl (List.getElem?_eq_getElem hc),ckb (by omega),List.drop_eq_getElem_cons hc];exact ih (i+1) _ (by omega) (by omega)
  ·rw [Bg (dF (by omega)),List.drop_eq_nil_of_le (by omega)];rfl
theorem Yq {F:Nat} {s:mosaic_Spec} (hF:100≤F) (h:RG F s):Gm F s=some (.ok (Sx s,0)):=by
 have hl:=h.len;unfold Gm Aw;rw [V8 hF h,sbd,Bg (c:=(0:Int) != 0) rfl,Mp (by simp;omega) (by decide),List.nil_append,sbd];exact Wd (F:=F) (by omega) F 0 [] (by omega) (by omega)
theorem Vr {F:Nat} {s:mosaic_Spec} {k:mosaic_Key} {t:Int} {r:mosaic_Radar} (h:RG F s) (hr:lkM (radM s) k.Name=some r) (hk:0≤k.Time∧k.Time≤4294967296) :
  ∀(n i:Nat),(s.Radars.drop i).find? (fun x=>x.Site.Name=k.Name)=some r→i≤s.Radars.length→s.Radars.length-i<n→Ey s k t n (i:Int)=some (decide (k.Time+r.Offset.Hi≤t∧t≤k.Time+r.Offset.Lo+s.Age)):=by
 have hl:=h.len;have ha:=h.age;obtain ⟨_,_,ho,_,_⟩:=h.gs.r _ _ hr;intro n
 induction n with
 | zero=>intro i _ _ h;omega
 | succ n ih =>
  intro i hf hi hn;rw [Ey];unfold Gv
  by_cases hc:i<s.Radars.length
  ·rw [List.drop_eq_getElem_cons hc,List.find?_cons] at hf;rw [Cx (dT (by omega)),F1 i s.Radars[i] rfl (List.getElem?_eq_getElem hc),Zz]
   by_cases e:s.Radars[i].Site.Name=k.Name
   ·rw [Cx (dT e)];simp only [e,decide_true,Option.some.injEq] at hf;rw [hf,ckb (by omega)]
    by_cases h1:k.Time+r.Offset.Hi≤t
    ·rw [dT h1,gdT (g:=(true==true&&true)) rfl,ckb (by omega),gdT (g:=(true==true&&true)) rfl,ckb (by omega)];rw [Cx (c:=true) rfl]
     by_cases h2:t≤k.Time+r.Offset.Lo+s.Age
     ·rw [dT h2,dT ⟨h1,h2⟩]
     ·rw [dF h2,dF (fun x=>h2 x.2)]
    ·rw [dF h1,gdF (g:=(false==true&&true)) rfl,sbd,gdF (g:=(false==true&&true)) rfl,sbd,Bg (c:=false) rfl,dF (fun x=>h1 x.1)]
   ·rw [Bg (dF e),ckb (by omega)];simp only [e,decide_false] at hf;exact ih (i+1) hf (by omega) (by omega)
  ·rw [List.drop_eq_nil_of_le (by omega)] at hf;cases hf
theorem Xa {F:Nat} {s:mosaic_Spec} {k:mosaic_Key} {t:Int} {r:mosaic_Radar} (hF:100≤F) (h:RG F s) (hr:lkM (radM s) k.Name=some r) (hk:0≤k.Time∧k.Time≤4294967296):Hm F s k t=some (decide (k.Time+r.Offset.Hi≤t∧t≤k.Time+r.Offset.Lo+s.Age)):=by
 have hl:=h.len;have hf:=hr;rw [N0 h] at hf;exact Vr h hr hk F 0 (by rw [List.drop_zero];exact hf) (by omega) (by omega)
end Go.Proofs.YtkbjbnkkfifbmaaGreat
namespace Go.Proofs.YtkbjbnkkfifbmaaGreat
open Go Go.RowKit Go.Eng
set_option maxRecDepth 10000
set_option linter.unusedVariables false
set_option linter.unusedSimpArgs false
def Wg (x:law11_Station):Prop:=(-32768≤x.X∧x.X≤32767)∧(-32768≤x.Y∧x.Y≤32767)∧(0≤x.Z∧x.Z≤65535)∧(0≤x.Rose∧x.Rose≤255)∧(0≤x.Gates∧x.Gates≤255)∧(0≤x.Width∧x.Width≤255)∧(0≤x.Lo∧x.Lo≤65535)∧(0≤x.Hi∧x.Hi≤65535)
def Qc (n:law11_Net):Prop:=(0≤n.Wide∧n.Wide≤255)∧(0≤n.High∧n.High≤255)∧(Wg n.Stations.1∧Wg n.Stations.2.1∧Wg n.Stations.2.2)∧(0≤n.Count∧n.Count≤255)∧(0≤n.Age∧n.Age≤65535)
def K3 (p:law11_Post):Prop:=(0≤p.Radar∧p.Radar≤255)∧(0≤p.Tilt∧p.Tilt≤255)∧(0≤p.Time∧p.Time≤65535)∧(∀y∈p.Vals,0≤y∧y≤65535)∧(0≤p.Wide∧p.Wide≤255)
theorem tm {x y:Int} (h:0≤x) (hy:0<y):0≤x.tmod y∧x.tmod y<y:=⟨Int.tmod_nonneg _ h,Int.tmod_lt_of_pos _ hy⟩
theorem tm2 (x:Int) {y:Int} (hy:0<y):-y<x.tmod y∧x.tmod y<y:=by
 refine ⟨?_,Int.tmod_lt_of_pos _ hy⟩;have:=Int.tmod_lt_of_pos (-x) hy;rw [Int.neg_tmod] at this;omega
def nmR (i:Nat):ByteArray:=if i=0 then ⟨#[97]⟩ else if i=1 then ⟨#[98]⟩ else ⟨#[99]⟩
def mkR (i:Nat) (x:law11_Station):mosaic_Radar:=⟨⟨nmR i,x.X.tmod 4000,x.Y.tmod 4000,x.Z.tmod 1000,1+x.Rose.tmod 3,1+x.Gates.tmod 5,1000,x.Width.tmod 3⟩,⟨x.Lo.tmod 601-300,x.Lo.tmod 601-300+x.Hi.tmod 300⟩⟩
def Ph (n:law11_Net):List mosaic_Radar:=[mkR 0 n.Stations.1,mkR 1 n.Stations.2.1,mkR 2 n.Stations.2.2].take (n.Count.tmod 3).toNat.succ
def Kq (n:law11_Net):mosaic_Spec:=⟨⟨-2000,-2000,1000,1+n.Wide.tmod 4,1+n.High.tmod 4⟩,⟨8000000,9000000⟩,Ph n,1+n.Age.tmod 2000⟩
theorem L4 {n:law11_Net} {a b c:Int} (h:Qc n) (i:Nat) (m:Nat) (l:List mosaic_Radar) (hl:l.length≤3) (hi:(i:Int)≤n.Count.tmod 3) :
  Bf n a b c (m+1) l (i:Int)=Bf n a b c m (l++[mkR i (if i=0 then n.Stations.1 else if i=1 then n.Stations.2.1 else n.Stations.2.2)]) ((i+1:Nat):Int):=by
 obtain ⟨_,_,⟨s1,s2,s3⟩,hc,_⟩:=h;have hcm:=tm hc.1 (y:=3) (by omega);rw [Bf];unfold Dj;rw [ckb (by omega),Fc (by omega),Cx (dT hi)];have hi3:i=0∨i=1∨i=2:=by omega
 rcases hi3 with rfl|rfl|rfl
 ·obtain ⟨⟨a1,b1⟩,⟨a2,b2⟩,⟨a3,b3⟩,⟨a4,b4⟩,⟨a5,b5⟩,⟨a6,b6⟩,⟨a7,b7⟩,⟨a8,b8⟩⟩:=s1;have t1:=tm a7 (y:=601) (by omega);have t2:=tm a8 (y:=300) (by omega);have t3:=tm a4 (y:=3) (by omega);have t4:=tm a5 (y:=5) (by omega);rw [Cx (c:=(((0:Nat):Int)==0)) rfl,ckb (by omega),Fc (by omega),ckb (by omega),F1 0 _ rfl rfl,ckb (by omega),Fc (by omega),ckb (by omega),Fc (by omega),ckb (by omega),Fc (by omega),ckb (by omega),Fc (by omega),ckb (by omega),ckb (by omega),Fc (by omega),ckb (by omega),ckb (by omega),Fc (by omega),ckb (by omega),Fc (by omega),ckb (by omega),Mp (by simp;omega) (by decide),ckb (by omega)];rfl
 ·obtain ⟨⟨a1,b1⟩,⟨a2,b2⟩,⟨a3,b3⟩,⟨a4,b4⟩,⟨a5,b5⟩,⟨a6,b6⟩,⟨a7,b7⟩,⟨a8,b8⟩⟩:=s2;have t1:=tm a7 (y:=601) (by omega);have t2:=tm a8 (y:=300) (by omega);have t3:=tm a4 (y:=3) (by omega);have t4:=tm a5 (y:=5) (by omega);rw [Bg (c:=(((1:Nat):Int)==0)) rfl,Cx (c:=(((1:Nat):Int)==1)) rfl,ckb (by omega),Fc (by omega),ckb (by omega),F1 1 _ rfl rfl,ckb (by omega),Fc (by omega),ckb (by omega),Fc (by omega),ckb (by omega),Fc (by omega),ckb (by omega),Fc (by omega),ckb (by omega),ckb (by omega),Fc (by omega),ckb (by omega),ckb (by omega),Fc (by omega),ckb (by omega),Fc (by omega),ckb (by omega),Mp (by simp;omega) (by decide),ckb (by omega)];rfl
 ·obtain ⟨⟨a1,b1⟩,⟨a2,b2⟩,⟨a3,b3⟩,⟨a4,b4⟩,⟨a5,b5⟩,⟨a6,b6⟩,⟨a7,b7⟩,⟨a8,b8⟩⟩:=s3;have t1:=tm a7 (y:=601) (by omega);have t2:=tm a8 (y:=300) (by omega);have t3:=tm a4 (y:=3) (by omega);have t4:=tm a5 (y:=5) (by omega);rw [Bg (c:=(((2:Nat):Int)==0)) rfl,Bg (c:=(((2:Nat):Int)==1)) rfl,Cx (c:=(((2:Nat):Int)==2)) rfl,ckb (by omega),Fc (by omega),ckb (by omega),F1 2 _ rfl rfl,ckb (by omega),Fc (by omega),ckb (by omega),Fc (by omega),ckb (by omega),Fc (by omega),ckb (by omega),Fc (by omega),ckb (by omega),ckb (by omega),Fc (by omega),ckb (by omega),ckb (by omega),Fc (by omega),ckb (by omega),Fc (by omega),ckb (by omega),Mp (by simp;omega) (by decide),ckb (by omega)];rfl
theorem P7 {n:law11_Net} {a b c:Int} (h:Qc n) (i:Nat) (m:Nat) (l:List mosaic_Radar) (hi:¬(i:Int)≤n.Count.tmod 3) :
  Bf n a b c (m+1) l (i:Int)=some ⟨⟨-2000,-2000,1000,a,b⟩,⟨8000000,9000000⟩,l,c⟩:=by
 obtain ⟨_,_,_,hc,_⟩:=h;rw [Bf];unfold Dj;rw [ckb (by omega),Fc (by omega),Bg (dF hi)];rfl
theorem Xm {F:Nat} {n:law11_Net} (hF:10≤F) (h:Qc n):E7 F n=some (Kq n):=by
 obtain ⟨m,rfl⟩:∃m,F=m+4:=⟨F-4,by omega⟩;have h':=h;obtain ⟨hw,hh,_,hc,ha⟩:=h';have t1:=tm hw.1 (y:=4) (by omega);have t2:=tm hh.1 (y:=4) (by omega);have t3:=tm ha.1 (y:=2000) (by omega);have t4:=tm hc.1 (y:=3) (by omega);unfold E7;rw [ckb (by omega),Fc (by omega),ckb (by omega),ckb (by omega),Fc (by omega),ckb (by omega),ckb (by omega),Fc (by omega),ckb (by omega)];have s0:=L4 (a:=1+n.Wide.tmod 4) (b:=1+n.High.tmod 4) (c:=1+n.Age.tmod 2000) h 0 (m+3) [] (by simp) (by omega);refine Eq.trans (b:=Bf n (1+n.Wide.tmod 4) (1+n.High.tmod 4) (1+n.Age.tmod 2000) (m+3) ([]++[mkR 0 n.Stations.1]) ((0+1:Nat):Int)) s0 ?_;have hcc:n.Count.tmod 3=0∨n.Count.tmod 3=1∨n.Count.tmod 3=2:=by omega
 rcases hcc with e|e|e
 ·rw [P7 h 1 (m+2) _ (by omega)];unfold Kq Ph;rw [e];rfl
 ·rw [L4 h 1 (m+2) _ (by simp) (by omega),P7 h (1+1) (m+1) _ (by omega)];unfold Kq Ph;rw [e];rfl
 ·rw [L4 h 1 (m+2) _ (by simp) (by omega),L4 h (1+1) (m+1) _ (by simp) (by omega),P7 h (1+1+1) m _ (by omega)];unfold Kq Ph;rw [e];rfl
theorem A0m (F i:Nat):Jd F (nmR i)=some true:=by
 unfold nmR
 split
 ·kernel_rfl
 ·split<;>kernel_rfl
theorem A0l (i:Nat):nmR i≠ByteArray.empty:=by
 unfold nmR
 split
 ·decide
 ·split<;>decide
structure MR (r:mosaic_Radar):Prop where
 step:r.Site.Step=1000
 width:0≤r.Site.Width∧r.Site.Width≤2
 gates:1≤r.Site.Gates∧r.Site.Gates≤5
theorem Zd {F:Nat} {x:law11_Station} (i:Nat) (h:Wg x):VS (mkR i x).Site∧beam_CheckSite F (mkR i x).Site=some 0∧(-3600≤(mkR i x).Offset.Lo∧(mkR i x).Offset.Lo≤(mkR i x).Offset.Hi∧(mkR i x).Offset.Hi≤3600)∧(mkR i x).Site.Name≠ByteArray.empty∧MR (mkR i x):=by
 obtain ⟨⟨a1,b1⟩,⟨a2,b2⟩,⟨a3,b3⟩,⟨a4,b4⟩,⟨a5,b5⟩,⟨a6,b6⟩,⟨a7,b7⟩,⟨a8,b8⟩⟩:=h;have t1:=tm a7 (y:=601) (by omega);have t2:=tm a8 (y:=300) (by omega);have t3:=tm a4 (y:=3) (by omega);have t4:=tm a5 (y:=5) (by omega);have t5:=tm2 x.X (y:=4000) (by omega);have t6:=tm2 x.Y (y:=4000) (by omega);have t7:=tm a3 (y:=1000) (by omega);have t8:=tm a6 (y:=3) (by omega);have hv:VS (mkR i x).Site:=by
  refine ⟨?_,?_,?_,?_,?_,?_,?_⟩<;>(unfold mkR;dsimp only;omega)
 refine ⟨hv,Ql hv (A0m F i),?_,A0l i,?_⟩
 ·unfold mkR;dsimp only;omega
 ·refine ⟨rfl,?_,?_⟩<;>(unfold mkR;dsimp only;omega)
theorem Xu {n:law11_Net} (h:Qc n):∀r∈Ph n,∃i x,Wg x∧r=mkR i x:=by
 obtain ⟨_,_,⟨s1,s2,s3⟩,_,_⟩:=h;intro r hr;have:=List.mem_of_mem_take hr;simp only [List.mem_cons,List.not_mem_nil,or_false] at this;rcases this with rfl|rfl|rfl
 ·exact ⟨_,_,s1,rfl⟩
 ·exact ⟨_,_,s2,rfl⟩
 ·exact ⟨_,_,s3,rfl⟩
theorem Y1 {F:Nat} {n:law11_Net} (h:Qc n):RG F (Kq n):=by
 have h':=h;obtain ⟨hw,hh,_,hc,ha⟩:=h';have t1:=tm hw.1 (y:=4) (by omega);have t2:=tm hh.1 (y:=4) (by omega);have t3:=tm ha.1 (y:=2000) (by omega);have t4:=tm hc.1 (y:=3) (by omega);have hm:=Ht (x:=1+n.Wide.tmod 4) (y:=1+n.High.tmod 4) (A:=4) (B:=4) (by omega) (by omega);have hlen:(Ph n).length=(n.Count.tmod 3).toNat.succ:=by
  unfold Ph;rw [List.length_take];simp;omega
 refine ⟨?_,?_,?_,?_,?_,?_,?_⟩
 ·refine ⟨?_,?_,?_,?_,?_⟩<;>(unfold Kq;dsimp only;omega)
 ·unfold VE Kq;dsimp only;omega
 ·unfold Kq;dsimp only;omega
 ·unfold pix Kq;dsimp only;omega
 ·show 1≤(Ph n).length∧(Ph n).length≤32;rw [hlen];omega
 ·show ((Ph n).map (·.Site.Name)).Nodup;unfold Ph;rw [List.map_take];refine List.Nodup.sublist (List.take_sublist _ _) ?_;show [nmR 0,nmR 1,nmR 2].Nodup
  decide
 ·intro r hr;obtain ⟨i,x,hx,rfl⟩:=Xu h r hr;obtain ⟨a,b,c,d,_⟩:=Zd (F:=F) i hx;exact ⟨a,b,c,d⟩
def Ku (p:law11_Post) (i:Nat):Int:=if p.Vals.length=0 then 0 else (p.Vals[i%p.Vals.length]?).getD 0
theorem Ub {p:law11_Post} (h:K3 p) (i:Nat):0≤Ku p i∧Ku p i≤65535:=by
 unfold Ku
 by_cases hl:p.Vals.length=0
 ·rw [if_pos hl];omega
 ·rw [if_neg hl];have hlt:i%p.Vals.length<p.Vals.length:=Nat.mod_lt _ (by omega);rw [List.getElem?_eq_getElem hlt];exact h.2.2.2.1 _ (List.getElem_mem hlt)
def Ka (p:law11_Post) (s:mosaic_Spec):mosaic_Message:=⟨⟨((s.Radars[p.Radar.toNat%s.Radars.length]?).getD default).Site.Name,p.Tilt.tmod 4,p.Time.tmod 2000⟩,(List.range (pix s)).map fun i=>⟨Ku p i,Ku p i+p.Wide⟩⟩
theorem So {a b:Nat}:((a:Int)).tmod (b:Int)=((a%b:Nat):Int):=rfl
theorem Wk {F:Nat} {s:mosaic_Spec} {p:law11_Post} {u:mosaic_Radar} {t v:Int} (h:RG F s) (hp:K3 p):∀(n i:Nat) (acc:List api_Span),i≤pix s→pix s-i<n→acc.length=i →
  C0 p s u t v n acc (i:Int)=some ⟨⟨u.Site.Name,t,v⟩,acc++((List.range (pix s)).drop i).map fun i=>⟨Ku p i,Ku p i+p.Wide⟩⟩:=by
 have hpx:=Xt h.gs;have hsm:=h.small;have hw:=hp.2.2.2.2;intro n
 induction n with
 | zero=>intro i _ _ h;omega
 | succ n ih =>
  intro i acc hi hn ha;rw [C0];unfold Eg;rw [hpx.1,ckb (by omega)]
  by_cases hc:i<pix s
  ·rw [Cx (dT (by omega))];have hv:=Ub hp i;have fin:Co p acc (i:Int) (C0 p s u t v n) (Ku p i)=some ⟨⟨u.Site.Name,t,v⟩,acc++((List.range (pix s)).drop i).map fun i=>⟨Ku p i,Ku p i+p.Wide⟩⟩:=by
    unfold Co;rw [ckb (by omega),ckb (by omega),Mp (by simp;omega) (by decide),ckb (by omega)];have:=ih (i+1) (acc++[⟨Ku p i,Ku p i+p.Wide⟩]) (by omega) (by omega) (by simp;omega);rw [List.append_assoc,List.singleton_append] at this;rw [List.drop_eq_getElem_cons (show i<(List.range (pix s)).length by simpa using hc),List.map_cons,List.getElem_range];exact this
   by_cases hl:p.Vals.length=0
   ·rw [Bg (dF (by omega)),show (0:Int)=Ku p i by unfold Ku;rw [if_pos hl]];exact fin
   ·have hlt:i%p.Vals.length<p.Vals.length:=Nat.mod_lt _ (by omega);have e:Ku p i=p.Vals[i%p.Vals.length]:=by
     unfold Ku;rw [if_neg hl,List.getElem?_eq_getElem hlt];rfl
    rw [Cx (dT (by omega)),Fc (by omega),So,F1 (i%p.Vals.length) (Ku p i) rfl (by rw [e];exact List.getElem?_eq_getElem hlt),ckb (by omega)];exact fin
  ·rw [Bg (dF (by omega)),List.drop_eq_nil_of_le (by simp;omega)];unfold Eh;rw [List.map_nil,List.append_nil]
theorem U8 {F:Nat} {s:mosaic_Spec} {p:law11_Post} (hF:600≤F) (h:RG F s) (hp:K3 p):Cj F p s=some (Ka p s):=by
 have hpx:=Xt h.gs;have hsm:=h.small;have hl:=h.len;have hp':=hp;obtain ⟨⟨r1,r2⟩,⟨t1,t2⟩,⟨m1,m2⟩,_,_⟩:=hp';obtain ⟨R,hR⟩:∃R:Nat,p.Radar=R:=⟨p.Radar.toNat,by omega⟩;have hlt:R%s.Radars.length<s.Radars.length:=Nat.mod_lt _ (by omega);unfold Cj;rw [ckb (by omega),Fc (by omega),hR,So,F1 (R%s.Radars.length) s.Radars[R%s.Radars.length] rfl (List.getElem?_eq_getElem hlt),ckb (by omega),Fc (by omega),ckb (by omega),Fc (by omega)];have:=Wk (u:=s.Radars[R%s.Radars.length]) (t:=p.Tilt.tmod 4) (v:=p.Time.tmod 2000) h hp F 0 [] (by omega) (by omega) rfl;rw [List.drop_zero,List.nil_append] at this;refine Eq.trans this ?_;unfold Ka;rw [hR,Int.toNat_natCast,List.getElem?_eq_getElem hlt];rfl
theorem Wa {F:Nat} {s:mosaic_Spec} {p:law11_Post} (h:RG F s) (hp:K3 p):okM s (Ka p s)∧(0≤(Ka p s).Key.Tilt∧(Ka p s).Key.Tilt≤3)∧(0≤(Ka p s).Key.Time∧(Ka p s).Key.Time≤1999):=by
 have hl:=h.len;have hlt:p.Radar.toNat%s.Radars.length<s.Radars.length:=Nat.mod_lt _ (by omega);have hw:=hp.2.2.2.2;have a1:=tm hp.2.1.1 (y:=4) (by omega);have a2:=tm hp.2.2.1.1 (y:=2000) (by omega);have k1:0≤(Ka p s).Key.Tilt∧(Ka p s).Key.Tilt≤3:=by unfold Ka;dsimp only;omega
 have k2:0≤(Ka p s).Key.Time∧(Ka p s).Key.Time≤1999:=by unfold Ka;dsimp only;omega
 have hnm:(Ka p s).Key.Name=s.Radars[p.Radar.toNat%s.Radars.length].Site.Name:=by unfold Ka;rw [List.getElem?_eq_getElem hlt];rfl
 have hlk:=h.lk (r:=s.Radars[p.Radar.toNat%s.Radars.length]) (List.getElem_mem hlt);rw [←hnm] at hlk;refine ⟨⟨⟨⟨_,hlk⟩,by omega,by omega⟩,?_,?_⟩,k1,k2⟩
 ·unfold Ka;simp
 ·intro v hv;unfold Ka at hv;simp only [List.mem_map] at hv;obtain ⟨i,_,rfl⟩:=hv;have:=Ub hp i;dsimp only;omega
end Go.Proofs.YtkbjbnkkfifbmaaGreat
namespace Go.Proofs.YtkbjbnkkfifbmaaGreat
open Go Go.RowKit Go.Eng
set_option maxRecDepth 10000
set_option linter.unusedVariables false
set_option linter.unusedSimpArgs false
theorem R8 {α:Type} {c d:α→α→Int} {x y:α} (h:Mu c d x y=0):c x y=0∧d x y=0:=by
 unfold Mu at h
 by_cases a:c x y=0
 ·rw [if_neg (by simpa using a)] at h;exact ⟨a,h⟩
 ·rw [if_pos a] at h;exact absurd h a
theorem A0b {a b:Int} (h:c3 a b=0):a=b:=by
 unfold c3 at h
 repeat' split at h
 all_goals first|omega|simp at h
theorem baL {a b:ByteArray} (h:a.toList=b.toList):a=b:=by
 apply U9.1;rw [←K5,h];exact beq_self_eq_true _
theorem Vh {x y:BK} (h:Qv x y=0):x.2=y.2:=by
 rw [Tt] at h;have h1:=(R8 (R8 h).2).2;obtain ⟨h2,h3⟩:=R8 h1;obtain ⟨h4,h5⟩:=R8 h3;have e1:=A0b h2;have e2:=baL (Jw.1 h4);have e3:=A0b h5;obtain ⟨xb,n,t,u⟩:=x;obtain ⟨yb,n',t',u'⟩:=y;dsimp only at e1 e2 e3 ⊢;rw [e1,e2,e3]
theorem Mk {F:Nat} {s:mosaic_Spec} {N N':mosaic_Node} {t:Int} {p:Nat} {x x':mosaic_Pixel} (G:mosaic_Key→Prop) (hu:∀k,¬G k→(k∈useK s N t↔k∈useK s N' t)) (hk:∀k,¬G k→k∈useK s N t→kl N.kept k=kl N'.kept k)
  (hx:Ly ((useK s N t).map (Dp F s N)) p x) (hx':Ly ((useK s N' t).map (Dp F s N')) p x') (g:¬G x.Key) (g':¬G x'.Key):x=x':=by
 rcases hx with ⟨rfl,h1⟩|⟨u,hm,b,v,h1,h2,h3,rfl,h5⟩
 ·rcases hx' with ⟨rfl,_⟩|⟨u',hm',b',v',h1',h2',h3',rfl,h5'⟩
  ·rfl
  ·obtain ⟨k,hk',rfl⟩:=List.mem_map.1 hm';exact absurd h2' (h1 (Dp F s N k) (List.mem_map.2 ⟨k,(hu k g').2 hk',rfl⟩) b' h1')
 ·obtain ⟨k,hk1,rfl⟩:=List.mem_map.1 hm;have hk2:=(hu k g).1 hk1;rcases hx' with ⟨rfl,h1'⟩|⟨u',hm',b',v',h1',h2',h3',rfl,h5'⟩
  ·exact absurd h2 (h1' (Dp F s N' k) (List.mem_map.2 ⟨k,hk2,rfl⟩) b h1)
  ·obtain ⟨k',hk1',rfl⟩:=List.mem_map.1 hm';have hk2':=(hu k' g').2 hk1';have a1:=h5 (Dp F s N k') (List.mem_map.2 ⟨k',hk2',rfl⟩) b' h1' h2';have a2:=h5' (Dp F s N' k) (List.mem_map.2 ⟨k,hk2,rfl⟩) b h1 h2;have e:Qv (b,k) (b',k')=0:=by
    rcases betC_ok.ay (b,k) (b',k') with h|h|h
    ·exact absurd h a2
    ·exact h
    ·exact absurd h a1
   have ek:k=k':=Vh e;subst ek;have ev:(Dp F s N k).vals=(Dp F s N' k).vals:=by
    show ((kl N.kept k)[0]?).getD []=((kl N'.kept k)[0]?).getD [];rw [hk k g hk1]
   rw [ev,h3'] at h3
   cases h3
   rfl
theorem T4 {N:mosaic_Node} {m:mosaic_Message} {r:Nat} {k:mosaic_Key} (h:k≠m.Key):kl (Lc N m r).kept k=kl N.kept k:=by
 unfold kl;show (lkM (upM N.kept m.Key _) k).getD []=_;rw [Mh,if_neg h]
theorem Mt {N:mosaic_Node} {m:mosaic_Message} {r:Nat} {k:mosaic_Key}:k∈ksN (Lc N m r)↔k=m.Key∨k∈ksN N:=by
 rw [Lm,Lm];show (∃l,lkM (upM N.kept m.Key _) k=some l)↔_;rw [Mh]
 by_cases h:k=m.Key
 ·rw [if_pos h];exact ⟨fun _=>.inl h,fun _=>⟨_,rfl⟩⟩
 ·rw [if_neg h];exact ⟨fun x=>.inr x,fun x=>x.elim (fun e=>absurd e h) id⟩
theorem Kz {s:mosaic_Spec} {N:mosaic_Node} {t:Int} {m:mosaic_Message} {r:Nat} {k:mosaic_Key} (h:k≠m.Key):fitB s (Lc N m r) t k=fitB s N t k:=by
 unfold fitB;rw [T4 h]
theorem V6 {s:mosaic_Spec} {N:mosaic_Node} {t:Int} {m:mosaic_Message} {r:Nat} {k:mosaic_Key} (h:whK k≠whK m.Key):k∈useK s N t↔k∈useK s (Lc N m r) t:=by
 have hk:k≠m.Key:=fun e=>h (by rw [e]);rw [He,He,Mt,Kz hk];constructor
 ·rintro ⟨h1,h2,h3⟩;refine ⟨.inr h1,h2,fun k' h4 h5 h6=>?_⟩;have hk':k'≠m.Key:=fun e=>h (by rw [←h6,e]);rw [Kz hk'] at h5;exact h3 k' ((Mt.1 h4).elim (fun e=>absurd e hk') id) h5 h6
 ·rintro ⟨h1,h2,h3⟩;refine ⟨h1.elim (fun e=>absurd e hk) id,h2,fun k' h4 h5 h6=>?_⟩;have hk':k'≠m.Key:=fun e=>h (by rw [←h6,e]);exact h3 k' (Mt.2 (.inr h4)) (by rw [Kz hk'];exact h5) h6
theorem Wt {s:mosaic_Spec} {N:mosaic_Node} {t:Int} {m:mosaic_Message} {r:Nat} {k:mosaic_Key} (hn:m.Key∉ksN N) (hf:fitB s (Lc N m r) t m.Key=false):k∈useK s N t↔k∈useK s (Lc N m r) t:=by
 rw [He,He,Mt]
 by_cases hk:k=m.Key
 ·subst hk;constructor
  ·rintro ⟨h1,_⟩;exact absurd h1 hn
  ·rintro ⟨_,h2,_⟩;rw [hf] at h2;cases h2
 ·rw [Kz hk];constructor
  ·rintro ⟨h1,h2,h3⟩;refine ⟨.inr h1,h2,fun k' h4 h5 h6=>?_⟩;have hk':k'≠m.Key:=fun e=>by rw [e,hf] at h5;cases h5
   rw [Kz hk'] at h5;exact h3 k' ((Mt.1 h4).elim (fun e=>absurd e hk') id) h5 h6
  ·rintro ⟨h1,h2,h3⟩;refine ⟨h1.elim (fun e=>absurd e hk) id,h2,fun k' h4 h5 h6=>?_⟩;have hk':k'≠m.Key:=fun e=>hn (e▸h4);exact h3 k' (Mt.2 (.inr h4)) (by rw [Kz hk'];exact h5) h6
def fgN (N:mosaic_Node) (h:Int):mosaic_Node:=⟨N.spec,N.radars,h,N.kept.filter (fun p=>!Kb h p),N.count-Ji h N.kept,N.looks⟩
theorem Zh {l:List mosaic_Key} (h:l.Nodup):ndK l=true:=by
 induction l with
 | nil=>rfl
 | cons k l ih =>
  rw [List.nodup_cons] at h;have e:l.contains k=false:=by
   cases hc:l.contains k with
   | false=>rfl
   | true=>exact absurd (List.contains_iff_mem.1 hc) h.1
  show (!l.contains k&&ndK l)=true;rw [e,ih h.2];rfl
theorem To (h:Int) (B:List (mosaic_Key×List (List api_Span))):tot (B.filter fun p=>!Kb h p)+Ji h B=tot B:=by
 induction B with
 | nil=>rfl
 | cons p B ih =>
  unfold tot Ji at ih ⊢;simp only [List.filter_cons,List.map_cons,List.sum_cons]
  cases Kb h p with
  | true =>
   simp only [Bool.not_true,if_true,Bool.false_eq_true,if_false,List.map_cons,List.sum_cons];omega
  | false =>
   simp only [Bool.not_false,if_true,Bool.false_eq_true,if_false,List.map_cons,List.sum_cons];omega
theorem W0 {h:Int} {B:List (mosaic_Key×List (List api_Span))} {k:mosaic_Key}:lkM (B.filter fun p=>!Kb h p) k=if k.Time<h then none else lkM B k:=by
 induction B with
 | nil=>split<;>rfl
 | cons p B ih =>
  rw [List.filter_cons];show _=if k.Time<h then none else (if k=p.1 then some p.2 else lkM B k)
  by_cases ho:p.1.Time<h
  ·have e:Kb h p=true:=dT ho;rw [e,if_neg (by simp),ih]
   by_cases hk:k.Time<h
   ·rw [if_pos hk,if_pos hk]
   ·rw [if_neg hk,if_neg hk,if_neg (fun e:k=p.1=>hk (e▸ho))]
  ·have e:Kb h p=false:=dF ho;rw [e,if_pos (by simp)];show (if k=p.1 then some p.2 else lkM (B.filter fun p=>!Kb h p) k)=_
   by_cases hk:k=p.1
   ·rw [if_pos hk,if_pos hk,if_neg (by rw [hk];exact ho)]
   ·rw [if_neg hk,if_neg hk,ih]
theorem NI.fg {F:Nat} {s:mosaic_Spec} {N:mosaic_Node} (hN:NI F s N) (h:Int):NI F s (fgN N h):=by
 refine ⟨hN.spec,hN.radars,?_,?_,?_,hN.looks⟩
 ·exact hN.nd.sublist (List.Sublist.map _ List.filter_sublist)
 ·intro p hp;exact hN.ok p (List.mem_filter.1 hp).1
 ·show N.count-Ji h N.kept=((tot (N.kept.filter fun p=>!Kb h p):Nat):Int);have:=To h N.kept;rw [hN.count];omega
theorem Yh {N:mosaic_Node} {h:Int} {k:mosaic_Key} (hk:¬k.Time<h):kl (fgN N h).kept k=kl N.kept k:=by
 unfold kl;show (lkM (N.kept.filter fun p=>!Kb h p) k).getD []=_;rw [W0,if_neg hk]
theorem Z2 {N:mosaic_Node} {h:Int} {k:mosaic_Key} (hk:k.Time<h):kl (fgN N h).kept k=[]:=by
 unfold kl;show (lkM (N.kept.filter fun p=>!Kb h p) k).getD []=_;rw [W0,if_pos hk];rfl
theorem Vy {N:mosaic_Node} {h:Int} {k:mosaic_Key}:k∈ksN (fgN N h)↔k∈ksN N∧¬k.Time<h:=by
 rw [Lm,Lm];show (∃l,lkM (N.kept.filter fun p=>!Kb h p) k=some l)↔_;rw [W0]
 by_cases hk:k.Time<h
 ·rw [if_pos hk];exact ⟨fun ⟨_,e⟩=>(nomatch e),fun e=>absurd hk e.2⟩
 ·rw [if_neg hk];exact ⟨fun e=>⟨e,hk⟩,fun e=>e.1⟩
theorem A05 {s:mosaic_Spec} {N:mosaic_Node} {h t:Int} {k:mosaic_Key} (hf:∀k∈ksN N,fitB s N t k=true→h≤k.Time):k∈useK s N t↔k∈useK s (fgN N h) t:=by
 have e:∀k,¬k.Time<h→fitB s (fgN N h) t k=fitB s N t k:=by
  intro k hk;unfold fitB;rw [Yh hk]
 rw [He,He,Vy];constructor
 ·rintro ⟨h1,h2,h3⟩;have hk:¬k.Time<h:=by have:=hf k h1 h2;omega
  refine ⟨⟨h1,hk⟩,by rw [e k hk];exact h2,fun k' h4 h5 h6=>?_⟩;obtain ⟨h7,h8⟩:=Vy.1 h4;rw [e k' h8] at h5;exact h3 k' h7 h5 h6
 ·rintro ⟨⟨h1,hk⟩,h2,h3⟩;rw [e k hk] at h2;refine ⟨h1,h2,fun k' h4 h5 h6=>?_⟩;have hk':¬k'.Time<h:=by have:=hf k' h4 h5;omega
  exact h3 k' (Vy.2 ⟨h4,hk'⟩) (by rw [e k' hk'];exact h5) h6
theorem Xo {F:Nat} {s:mosaic_Spec} {N:mosaic_Node} {h:Int} (hN:NI F s N) (ht:tot N.kept<900):H0 F N h=some ((Ji h N.kept:Int),fgN N h):=by
 have h1:=hN.count;have h2:=To h N.kept;unfold H0;rw [if_pos ⟨Zh hN.nd,by omega,by omega,by omega⟩];rfl
theorem Pu {F:Nat} {s:mosaic_Spec} {N:mosaic_Node} {h:Int} (hN:NI F s N) (ht:tot N.kept<900) (hh:0≤h∧h≤4294967296) :
  Bs F N h=some (if h≤N.horizon then (0,0,N) else ((Ji h N.kept:Int),0,fgN N h)):=by
 unfold Bs Az;rw [sbd,cond_false,Jk hh,Bg (c:=!true) rfl]
 by_cases hc:h≤N.horizon
 ·rw [Cx (dT hc),if_pos hc]
 ·rw [Bg (dF hc),if_neg hc,Xo hN ht,sbd]
end Go.Proofs.YtkbjbnkkfifbmaaGreat
namespace Go.Proofs.YtkbjbnkkfifbmaaGreat
open Go Go.RowKit Go.Eng
set_option maxRecDepth 10000
set_option linter.unusedVariables false
set_option linter.unusedSimpArgs false
abbrev YM:=List mosaic_Pixel×Int×List (mosaic_where×List api_Span)
theorem U7 (x:mosaic_Pixel):((((x.Value_.Lo:Int)==x.Value_.Lo)&&(((x.Value_.Hi:Int)==x.Value_.Hi)&&true))&&(((x.Key.Name==x.Key.Name)&&(((x.Key.Tilt:Int)==x.Key.Tilt)&&(((x.Key.Time:Int)==x.Key.Time)&&true)))&&true))=true:=by
 rw [Z0,dT rfl];simp
theorem Z7 {F:Nat} {Y Z:YM} (hl:Y.1.length≤1000) (he:∀(p:Nat) (x x':mosaic_Pixel),Y.1[p]? = some x→Z.1[p]? = some x'→x=x') (hz:Z.1.length=Y.1.length):∀(n i:Nat),i≤Y.1.length→Y.1.length-i<n→Bp F Y Z n (i:Int)=Ay F:=by
 intro n
 induction n with
 | zero=>intro i _ h;omega
 | succ n ih =>
  intro i hi hn;rw [Bp];unfold Dq
  by_cases hc:i<Y.1.length
  ·obtain ⟨x,hx⟩:∃x,Y.1[i]? = some x:=⟨_,List.getElem?_eq_getElem hc⟩;obtain ⟨x',hx'⟩:∃x,Z.1[i]? = some x:=⟨_,List.getElem?_eq_getElem (by omega)⟩;have e:=he i x x' hx hx';subst e;rw [Cx (dT (by omega)),F1 i x rfl hx,F1 i x rfl hx',U7,Bg (c:=!true) rfl,ckb (by omega)];exact ih (i+1) hc (by omega)
  ·rw [Bg (dF (by omega))]
structure Left (F:Nat) (s:mosaic_Spec) (N Nf:mosaic_Node) (h g:Int):Prop where
 ni:NI F s Nf
 hz:Nf.horizon=h
 cnt:g+(tot Nf.kept:Int)=(tot N.kept:Int)
 g0:0≤g
 ms:∀m∈msgs Nf,h≤m.Key.Time
 us:∀t,(∀k∈ksN N,fitB s N t k=true→h≤k.Time)→∀k,(k∈useK s N t↔k∈useK s Nf t)
 kl:∀k,h≤k.Time→kl N.kept k=kl Nf.kept k
theorem Xj {F:Nat} {s:mosaic_Spec} {N:mosaic_Node} {h:Int} (hN:NI F s N) (h0:N.horizon=0) (ht:tot N.kept<900) (hh:0≤h∧h≤4294967296) :
  ∃g Nf,Bs F N h=some (g,0,Nf)∧Left F s N Nf h g:=by
 by_cases hc:h≤N.horizon
 ·refine ⟨0,N,by rw [Pu hN ht hh,if_pos hc],hN,by omega,by omega,Int.le_refl _,?_,fun _ _ _=>Iff.rfl,fun _ _=>rfl⟩;intro m hm;have hv:=S5.1 hm;have:m.Key∈ksN N:=by
   rw [Lm];unfold Go.Proofs.YtkbjbnkkfifbmaaGreat.kl at hv
   cases e:lkM N.kept m.Key with
   | none=>rw [e] at hv;cases hv
   | some l=>exact ⟨l,rfl⟩
  have:=(hN.key this).1.2.2.1;omega
 ·refine ⟨_,fgN N h,by rw [Pu hN ht hh,if_neg hc],hN.fg h,rfl,?_,by omega,?_,fun t hf k=>A05 hf,fun k hk=>(Yh (by omega)).symm⟩
  ·have:=To h N.kept;show (Ji h N.kept:Int)+(tot (N.kept.filter fun p=>!Kb h p):Int)=_;omega
  ·intro m hm;have hv:=S5.1 hm
   by_cases hk:m.Key.Time<h
   ·rw [Z2 hk] at hv;cases hv
   ·omega
theorem Vs {B:List (mosaic_Key×List (List api_Span))} (hn:(B.map (·.1)).Nodup):((B.map (·.1)).flatMap fun k=>(kl B k).map (mosaic_Message.mk k)).length=tot B:=by
 induction B with
 | nil=>rfl
 | cons p B ih =>
  rw [List.map_cons,List.nodup_cons] at hn;rw [List.map_cons,List.flatMap_cons,List.length_append,List.length_map];have e1:tot (p::B)=p.2.length+tot B:=by simp [tot]
  have e2:kl (p::B) p.1=p.2:=by unfold kl lkM;rw [if_pos rfl];rfl
  have e3:((B.map (·.1)).flatMap fun k=>(kl (p::B) k).map (mosaic_Message.mk k))=(B.map (·.1)).flatMap fun k=>(kl B k).map (mosaic_Message.mk k):=by
   have fm:∀l:List mosaic_Key,(∀x∈l,x∈B.map (·.1))→(l.flatMap fun k=>(kl (p::B) k).map (mosaic_Message.mk k))=l.flatMap fun k=>(kl B k).map (mosaic_Message.mk k):=by
    intro l
    induction l with
    | nil=>intro _;rfl
    | cons x l ih =>
     intro hx;rw [List.flatMap_cons,List.flatMap_cons,ih fun y hy=>hx y (.tail _ hy)];have:kl (p::B) x=kl B x:=by
      unfold kl;show (if x=p.1 then some p.2 else lkM B x).getD []=_;rw [if_neg (fun e:x=p.1=>hn.1 (e▸hx x (.head _)))]
     rw [this]
   exact fm _ fun x hx=>hx
  rw [e1,e2,e3,ih hn.2]
theorem S6 {F:Nat} {s:mosaic_Spec} {N:mosaic_Node} (h:NI F s N):(msgs N).length=tot N.kept:=by
 have:=(List.Perm.flatMap_right (fun k=>(kl N.kept k).map (mosaic_Message.mk k)) (Hl N).2.1).length_eq;exact this.trans (Vs h.nd)
theorem Z6 {F:Nat} {s:mosaic_Spec} {t h g:Int} {bb:Bool} {N' Nf:mosaic_Node} {out':List mosaic_Pixel} {L':List (mosaic_where×List api_Span)} (hF:1000≤F) (hs:GS F s) (ht:0≤t∧t≤4000) (hh:0≤h∧h≤2500)
  (hN:NI F s ⟨N'.spec,N'.radars,N'.horizon,N'.kept,N'.count,L'⟩) (h0:N'.horizon=0) (hn:tot N'.kept<900) (hl:Left F s ⟨N'.spec,N'.radars,N'.horizon,N'.kept,N'.count,L'⟩ Nf h g):Cf F s t (bb,0,N') (out',0,L') h (g,0,Nf)=Ay F:=by
 have hag:=hs.age;have hsm:=hs.small;have e0:Cf F s t (bb,0,N') (out',0,L') h (g,0,Nf)=(ck (h+s.Age)).bind fun x435=>(ck (x435+3600)).bind fun x436=>(ck (x436+t)).bind fun x437 =>
   (B1 F ⟨N'.spec,Nf.radars,N'.horizon,N'.kept,N'.count,L'⟩ x437).bind fun y438=>(B1 F Nf x437).bind fun y447 =>
   bif (bif (bif (y438.2.1 != 0) then true else (y447.2.1 != 0)) then true else (((y438.1.length:Nat):Int) != ((y447.1.length:Nat):Int))) then (some false) else (Bp F y438 y447 F 0):=rfl
 have hr:Nf.radars=N'.radars:=hl.ni.radars.trans hN.radars.symm;have hc:=hl.cnt;have hg:=hl.g0;have hn2:tot (mosaic_Node.mk N'.spec N'.radars N'.horizon N'.kept N'.count L').kept=tot N'.kept:=rfl;rw [hn2] at hc;obtain ⟨o1,L1,a1,a2,a3,a4⟩:=Qn (t:=h+s.Age+3600+t) hF hs hN hn (by omega) (by show N'.horizon≤_;omega);obtain ⟨o2,L2,b1,b2,b3,b4⟩:=Qn (t:=h+s.Age+3600+t) hF hs hl.ni (by omega) (by omega) (by rw [hl.hz];omega);have hfit:∀k∈ksN (mosaic_Node.mk N'.spec N'.radars N'.horizon N'.kept N'.count L'),fitB s (mosaic_Node.mk N'.spec N'.radars N'.horizon N'.kept N'.count L') (h+s.Age+3600+t) k=true→h≤k.Time:=by
  intro k hk hfk;obtain ⟨r,hr⟩:=(hN.key hk).1.1;have ho:=(hs.r _ _ hr).2.2.1;unfold fitB at hfk;have e:Sb s k=r.Offset:=by unfold Sb;rw [hr];rfl
  rw [e] at hfk;obtain ⟨_,_,h3⟩:=of_decide_eq_true hfk;omega
 rw [e0,ckb (by omega),ckb (by omega),ckb (by omega),hr,a1,sbd,b1,sbd];rw [Bg (c:=bif (bif ((o1,(0:Int),L1).2.1 != 0) then true else ((o2,(0:Int),L2).2.1 != 0)) then true else ((((o1,(0:Int),L1).1.length:Nat):Int) != (((o2,(0:Int),L2).1.length:Nat):Int))) (by
  show (bif (bif false then true else false) then true else ((o1.length:Int) != (o2.length:Int)))=false;rw [a3,b3];simp)]
 refine Z7 (Y:=(o1,0,L1)) (Z:=(o2,0,L2)) (by show o1.length≤1000;omega) (fun p x x' hx hx'=>?_) (b3.trans a3.symm) F 0 (Nat.zero_le _) (by show o1.length-0<F;omega);have u:=hl.us _ hfit;refine Mk (fun _=>False) (fun k _=>u k) (fun k _ hk=>?_) (a4 p x hx) (b4 p x' hx') id id;obtain ⟨h1,h2,_⟩:=He.1 hk;exact hl.kl k (hfit k h1 h2)
theorem Z8 {F:Nat} {s:mosaic_Spec} {t h g:Int} {bb:Bool} {N' Nf:mosaic_Node} {out':List mosaic_Pixel} {L':List (mosaic_where×List api_Span)} {M:List mosaic_Message} (hM:∀m∈M,h≤m.Key.Time) (hl:M.length≤1000):∀(n i:Nat),i≤M.length→M.length-i<n →
  Bq F s t (bb,0,N') (out',0,L') h (g,0,Nf) (M,0) n (i:Int)=Cf F s t (bb,0,N') (out',0,L') h (g,0,Nf):=by
 intro n
 induction n with
 | zero=>intro i _ h;omega
 | succ n ih =>
  intro i hi hn;rw [Bq];unfold Dr;rw [show (M,(0:Int)).1=M from rfl]
  by_cases hc:i<M.length
  ·have:=hM _ (List.getElem_mem hc);rw [Cx (dT (by omega)),F1 i M[i] rfl (List.getElem?_eq_getElem hc),Bg (dF (by omega)),ckb (by omega)];exact ih (i+1) hc (by omega)
  ·rw [Bg (dF (by omega))]
theorem Z5 {F:Nat} {s:mosaic_Spec} {t p4:Int} {bb:Bool} {N':mosaic_Node} {out':List mosaic_Pixel} {L':List (mosaic_where×List api_Span)} (hF:1000≤F) (hs:GS F s) (ht:0≤t∧t≤4000) (hp:0≤p4∧p4≤65535)
  (hN:NI F s ⟨N'.spec,N'.radars,N'.horizon,N'.kept,N'.count,L'⟩) (h0:N'.horizon=0) (hn:tot N'.kept<900):Bo F p4 s t (bb,0,N') (out',0,L')=Ay F:=by
 have e0:Bo F p4 s t (bb,0,N') (out',0,L')=(ck p4).bind fun x359=>(D3 x359 2500).bind fun x360=>(Bs F ⟨N'.spec,N'.radars,N'.horizon,N'.kept,N'.count,L'⟩ x360).bind fun y375 =>
   (Cs F y375.2.2 []).bind fun y386=>(Cs F ⟨N'.spec,y375.2.2.radars,N'.horizon,N'.kept,N'.count,L'⟩ []).bind fun y394 =>
   (gd ((bif (bif (y375.2.1 != 0) then true else (y386.2 != 0)) then true else (y394.2 != 0))==false&&true) (ck (y375.1+((y386.1.length:Nat):Int))) 0).bind fun x402 =>
   bif (bif (bif (bif (y375.2.1 != 0) then true else (y386.2 != 0)) then true else (y394.2 != 0)) then true else (x402 != ((y394.1.length:Nat):Int))) then (some false) else
   ((C7 F y375.2.2).bind fun y404=>bif (y404 != x360) then (some false) else (Bq F s t (bb,0,N') (out',0,L') x360 y375 y386 F 0)):=rfl
 have hh:=tm hp.1 (y:=2500) (by omega);obtain ⟨h,eh⟩:∃h,h=p4.tmod 2500:=⟨_,rfl⟩;rw [←eh] at hh;obtain ⟨g,Nf,e1,hl⟩:=Xj (h:=h) hN h0 hn (by omega);have hr:Nf.radars=N'.radars:=hl.ni.radars.trans hN.radars.symm;have hc:=hl.cnt;have hg:=hl.g0;have hn2:tot (mosaic_Node.mk N'.spec N'.radars N'.horizon N'.kept N'.count L').kept=tot N'.kept:=rfl;rw [hn2] at hc;have hm1:=S6 hl.ni;have hm2:=S6 hN;rw [hn2] at hm2;have hz:C7 F Nf=some h:=by unfold C7 Az;rw [sbd,cond_false,hl.hz]
 rw [e0,ckb (by omega),Fc (by omega),←eh,e1,sbd];rw [show (g,(0:Int),Nf).2.2=Nf from rfl,N7 hF hs hl.ni (by omega),sbd,hr,N7 hF hs hN hn,sbd];rw [show ((g,(0:Int),Nf).2.1 != 0)=false from rfl,gdT (g:=((bif (bif false then true else false) then true else false)==false&&true)) rfl];rw [show (g,(0:Int),Nf).1=g from rfl,show (msgs Nf,(0:Int)).1=msgs Nf from rfl,show (msgs (mosaic_Node.mk N'.spec N'.radars N'.horizon N'.kept N'.count L'),(0:Int)).1=msgs (mosaic_Node.mk N'.spec N'.radars N'.horizon N'.kept N'.count L') from rfl,ckb (by omega)];rw [Bg (c:=bif (bif (bif false then true else false) then true else false) then true else (g+(((msgs Nf).length:Nat):Int) != (((msgs (mosaic_Node.mk N'.spec N'.radars N'.horizon N'.kept N'.count L')).length:Nat):Int))) (by rw [hm1,hm2,hc];simp),hz,sbd,Bg (c:=(h != h)) (by simp)];exact (Z8 hl.ms (by omega) F 0 (Nat.zero_le _) (by omega)).trans (Z6 hF hs (by omega) (by omega) hN h0 hn hl)
end Go.Proofs.YtkbjbnkkfifbmaaGreat
namespace Go.Proofs.YtkbjbnkkfifbmaaGreat
open Go Go.RowKit Go.Eng
set_option maxRecDepth 10000
set_option linter.unusedVariables false
set_option linter.unusedSimpArgs false
theorem gdg {α β:Type} {g:Bool} {l:List α} {i:Int} {d:α} {f:α→Option β} (n:Nat) (x:α) (hi:i=(n:Int)) (h:l[n]? = some x):(gd g (Bn l i) d).bind f=f (bif g then x else d):=by
 cases g with
 | true=>exact F1 n x hi h
 | false=>rfl
theorem gdo {α β:Type} {g:Bool} {o:Option α} {d y:α} {f:α→Option β} (h:o=some y):(gd g o d).bind f=f (bif g then y else d):=by
 subst h
 cases g<;>rfl
theorem bX {α:Type} {X:Bool} {a b:α}:(bif (bif (!true) then X else false) then a else b)=b:=rfl
theorem bY {α:Type} {X E:Bool} {a b:α} (h:E=false→X=false):(bif (bif (!E) then X else false) then a else b)=b:=by
 cases E with
 | true=>rfl
 | false=>rw [h rfl];rfl
theorem ofE {x x' d:mosaic_Pixel} {k:mosaic_Key} (h:whK x.Key=whK k∨whK x'.Key=whK k) :
  (bif (bif (sEq x.Key.Name k.Name) then ((bif ((sEq x.Key.Name k.Name)==true&&true) then x else d).Key.Tilt==k.Tilt) else false) then true else (bif (sEq (bif ((bif (sEq x.Key.Name k.Name) then ((bif ((sEq x.Key.Name k.Name)==true&&true) then x else d).Key.Tilt==k.Tilt) else false)==false&&true) then x' else d).Key.Name k.Name) then
   ((bif ((sEq (bif ((bif (sEq x.Key.Name k.Name) then ((bif ((sEq x.Key.Name k.Name)==true&&true) then x else d).Key.Tilt==k.Tilt) else false)==false&&true) then x' else d).Key.Name k.Name)==true&&((bif (sEq x.Key.Name k.Name) then ((bif ((sEq x.Key.Name k.Name)==true&&true) then x else d).Key.Tilt==k.Tilt) else false)==false&&true)) then x' else d).Key.Tilt==k.Tilt) else false))=true:=by
 have e1:(bif (sEq x.Key.Name k.Name) then ((bif ((sEq x.Key.Name k.Name)==true&&true) then x else d).Key.Tilt==k.Tilt) else false)=decide (whK x.Key=whK k):=by
  rw [Zz]
  by_cases a:x.Key.Name=k.Name
  ·rw [dT a];show (x.Key.Tilt==k.Tilt)=_
   by_cases b:x.Key.Tilt=k.Tilt
   ·rw [dT (show whK x.Key=whK k by unfold whK;rw [a,b]),b];simp
   ·rw [dF (show ¬whK x.Key=whK k from fun e=>b (congrArg (·.tilt) e))];simpa using b
  ·rw [dF a,dF (show ¬whK x.Key=whK k from fun e=>a (congrArg (·.name) e))];rfl
 rw [e1]
 by_cases c:whK x.Key=whK k
 ·rw [dT c];rfl
 ·rw [dF c];have h':whK x'.Key=whK k:=h.elim (fun e=>absurd e c) id;have a:x'.Key.Name=k.Name:=congrArg (·.name) h';have b:x'.Key.Tilt=k.Tilt:=congrArg (·.tilt) h';show (bif (sEq x'.Key.Name k.Name) then ((bif ((sEq x'.Key.Name k.Name)==true&&true) then x' else d).Key.Tilt==k.Tilt) else false)=true;rw [Zz,dT a];show (x'.Key.Tilt==k.Tilt)=true;rw [b];simp
theorem Z9 {F:Nat} {s:mosaic_Spec} {t p4:Int} {m:mosaic_Message} {c ft:Bool} {Y Z:YM} {y312:Bool×Int×mosaic_Node} (hl:Y.1.length≤1000) (hz:Z.1.length=Y.1.length) (hf:Hm F s m.Key t=some ft)
  (he:∀(p:Nat) (x x':mosaic_Pixel),Y.1[p]? = some x→Z.1[p]? = some x'→x=x'∨((whK x.Key=whK m.Key∨whK x'.Key=whK m.Key)∧(c=true∨ft=true))):∀(n i:Nat),i≤Y.1.length→Y.1.length-i<n →
  Bi F p4 s t m c Y y312 Z n (i:Int)=Bo F p4 s t y312 Z:=by
 intro n
 induction n with
 | zero=>intro i _ h;omega
 | succ n ih =>
  intro i hi hn;rw [Bi];unfold Dt
  by_cases hc:i<Y.1.length
  ·obtain ⟨x,hx⟩:∃x,Y.1[i]? = some x:=⟨_,List.getElem?_eq_getElem hc⟩;obtain ⟨x',hx'⟩:∃x,Z.1[i]? = some x:=⟨_,List.getElem?_eq_getElem (by omega)⟩;rw [Cx (dT (by omega)),F1 i x rfl hx,gdg i x rfl hx,gdg i x' rfl hx',gdg i x' rfl hx',F1 i x rfl hx,F1 i x' rfl hx',gdo hf];have fin:(ck ((i:Int)+1)).bind (fun x537=>Bi F p4 s t m c Y y312 Z n x537)=Bo F p4 s t y312 Z:=by
    rw [ckb (by omega)];exact ih (i+1) hc (by omega)
   rcases he i x x' hx hx' with rfl|⟨ho,hcf⟩
   ·rw [U7,bX];exact fin
   ·rw [ofE ho];refine Eq.trans (bY fun hE=>?_) fin;rw [hE];rcases hcf with rfl|rfl
    ·rfl
    ·cases c<;>rfl
  ·rw [Bg (dF (by omega))]
theorem NI.lk {F:Nat} {s:mosaic_Spec} {N:mosaic_Node} (h:NI F s N) {L:List (mosaic_where×List api_Span)} (hL:LV F s L):NI F s ⟨N.spec,N.radars,N.horizon,N.kept,N.count,L⟩:=⟨h.spec,h.radars,h.nd,h.ok,h.count,hL⟩
theorem Z4 {F:Nat} {s:mosaic_Spec} {N:mosaic_Node} {t p4:Int} {m:mosaic_Message} {c:Bool} (hF:1000≤F) (h:RG F s) (hN:NI F s N) (h0:N.horizon=0) (hn:tot N.kept≤100) (hm:okM s m) (ht:0≤t∧t≤4000) (hp:0≤p4∧p4≤65535) (hc:c=decide (m.Key∈ksN N)) :
  Ce F p4 s N.spec.Grid.X N.spec.Grid.Y N.horizon N.count N.spec.Grid.Size N.spec.Grid.Wide N.spec.Grid.High N.spec.Earth.Lo N.spec.Earth.Hi N.spec.Radars N.spec.Age N.radars N.kept N.looks t m c=Ay F:=by
 have hs:=h.gs;have hsm:=hs.small;have e0:Ce F p4 s N.spec.Grid.X N.spec.Grid.Y N.horizon N.count N.spec.Grid.Size N.spec.Grid.Wide N.spec.Grid.High N.spec.Earth.Lo N.spec.Earth.Hi N.spec.Radars N.spec.Age N.radars N.kept N.looks t m c =
   (B1 F N t).bind fun y303=>(Bh F ⟨N.spec,N.radars,N.horizon,N.kept,N.count,y303.2.2⟩ m).bind fun y312=>(B1 F y312.2.2 t).bind fun y323 =>
   bif (bif (bif (bif (y303.2.1 != 0) then true else (y312.2.1 != 0)) then true else (y323.2.1 != 0)) then true else (((y303.1.length:Nat):Int) != ((y323.1.length:Nat):Int))) then (some false) else (Bi F p4 s t m c y303 y312 y323 F 0):=rfl
 obtain ⟨o1,L1,a1,a2,a3,a4⟩:=Qn (t:=t) hF hs hN (by omega) (by omega) (by omega);have hN1:=hN.lk a2;have hcn:=hN.count;have hk:=hm.key;obtain ⟨rd,hrd⟩:=hk.1;obtain ⟨r,b,e2,hr,-⟩:=Ri hF hs hN1 hm (by show N.horizon≤_;have:=hk.2.2.1;omega) (by show N.count<256;omega);have hf:=Xa (F:=F) (t:=t) (by omega) h hrd hk.2.2;rw [e0,a1,sbd,show (o1,(0:Int),L1).2.2=L1 from rfl,e2,sbd];have hput:=hN1.put hm hr;have hput0:tot (Lc (mosaic_Node.mk N.spec N.radars N.horizon N.kept N.count L1) m r).kept≤101:=by
  have h1:=hput.count;have h2:(Lc (mosaic_Node.mk N.spec N.radars N.horizon N.kept N.count L1) m r).count=N.count+1:=rfl;omega
 obtain ⟨N',hN'd,hN',hN'0,hN't,hdiff⟩:∃N':mosaic_Node,(if b=true then (mosaic_Node.mk N.spec N.radars N.horizon N.kept N.count L1) else Lc (mosaic_Node.mk N.spec N.radars N.horizon N.kept N.count L1) m r)=N'∧NI F s N'∧N'.horizon=0∧tot N'.kept≤101 ∧
   ∀(p:Nat) (x x':mosaic_Pixel),Ly ((useK s N t).map (Dp F s N)) p x→Ly ((useK s N' t).map (Dp F s N')) p x'→x=x'∨((whK x.Key=whK m.Key∨whK x'.Key=whK m.Key)∧(c=true∨decide (m.Key.Time+rd.Offset.Hi≤t∧t≤m.Key.Time+rd.Offset.Lo+s.Age)=true)):=by
  cases b with
  | true=>exact ⟨_,rfl,hN1,h0,by show tot N.kept≤101;omega,fun p x x' hx hx'=>.inl (Mk (N:=N) (N':=⟨N.spec,N.radars,N.horizon,N.kept,N.count,L1⟩) (fun _=>False) (fun _ _=>Iff.rfl) (fun _ _ _=>rfl) hx hx' id id)⟩
  | false =>
   refine ⟨_,rfl,hput,h0,hput0,fun p x x' hx hx'=>?_⟩
   by_cases hof:whK x.Key=whK m.Key∨whK x'.Key=whK m.Key
   ·by_cases hcf:c=true∨decide (m.Key.Time+rd.Offset.Hi≤t∧t≤m.Key.Time+rd.Offset.Lo+s.Age)=true
    ·exact .inr ⟨hof,hcf⟩
    ·left;have c1:m.Key∉ksN N:=fun hk=>hcf (.inl (by rw [hc];exact dT hk));have c2:¬(m.Key.Time+rd.Offset.Hi≤t∧t≤m.Key.Time+rd.Offset.Lo+s.Age):=fun hk=>hcf (.inr (dT hk));have hfit:fitB s (Lc (mosaic_Node.mk N.spec N.radars N.horizon N.kept N.count L1) m r) t m.Key=false:=by
      unfold fitB;refine dF fun ⟨_,d1,d2⟩=>c2 ?_;have e:Sb s m.Key=rd.Offset:=by unfold Sb;rw [hrd];rfl
      rw [e] at d1 d2;exact ⟨d1,by omega⟩
     refine Mk (N:=N) (N':=Lc (mosaic_Node.mk N.spec N.radars N.horizon N.kept N.count L1) m r) (fun _=>False) (fun k _=>Wt (N:=⟨N.spec,N.radars,N.horizon,N.kept,N.count,L1⟩) c1 hfit) (fun k _ hku=>?_) hx hx' id id;have hkm:k≠m.Key:=fun e=>c1 (e▸(He.1 hku).1);exact (T4 (N:=⟨N.spec,N.radars,N.horizon,N.kept,N.count,L1⟩) hkm).symm
   ·left;refine Mk (N:=N) (N':=Lc (mosaic_Node.mk N.spec N.radars N.horizon N.kept N.count L1) m r) (fun k=>whK k=whK m.Key) (fun k hg=>V6 (N:=⟨N.spec,N.radars,N.horizon,N.kept,N.count,L1⟩) hg) (fun k hg _=>?_) hx hx' (fun e=>hof (.inl e)) (fun e=>hof (.inr e));have hkm:k≠m.Key:=fun e=>hg (by rw [e]);exact (T4 (N:=⟨N.spec,N.radars,N.horizon,N.kept,N.count,L1⟩) hkm).symm
 rw [hN'd,show (!b,(0:Int),N').2.2=N' from rfl];obtain ⟨o2,L2,b1,b2,b3,b4⟩:=Qn (t:=t) hF hs hN' (by omega) (by omega) (by omega);rw [b1,sbd,Bg (c:=bif (bif (bif ((o1,(0:Int),L1).2.1 != 0) then true else ((!b,(0:Int),N').2.1 != 0)) then true else ((o2,(0:Int),L2).2.1 != 0)) then true else ((((o1,(0:Int),L1).1.length:Nat):Int) != (((o2,(0:Int),L2).1.length:Nat):Int))) (by
  show (bif (bif (bif false then true else false) then true else false) then true else ((o1.length:Int) != (o2.length:Int)))=false;rw [a3,b3];simp)]
 refine (Z9 (Y:=(o1,0,L1)) (Z:=(o2,0,L2)) (by show o1.length≤1000;omega) (b3.trans a3.symm) hf (fun p x x' hx hx'=>hdiff p x x' (a4 p x hx) (b4 p x' hx')) F 0 (Nat.zero_le _) (by show o1.length-0<F;omega)).trans ?_;exact Z5 hF hs ht hp (hN'.lk b2) hN'0 (by omega)
theorem Za {F:Nat} {s:mosaic_Spec} {N:mosaic_Node} {t p4:Int} {m:mosaic_Message} (hl:(ksN N).length≤1000):∀(n i:Nat) (c:Bool),i≤(ksN N).length→(ksN N).length-i<n→c=decide (m.Key∈(ksN N).take i) →
  Br F p4 s N.spec.Grid.X N.spec.Grid.Y N.horizon N.count N.spec.Grid.Size N.spec.Grid.Wide N.spec.Grid.High N.spec.Earth.Lo N.spec.Earth.Hi N.spec.Radars N.spec.Age N.radars N.kept N.looks t m (ksN N) n c (i:Int) =
  Ce F p4 s N.spec.Grid.X N.spec.Grid.Y N.horizon N.count N.spec.Grid.Size N.spec.Grid.Wide N.spec.Grid.High N.spec.Earth.Lo N.spec.Earth.Hi N.spec.Radars N.spec.Age N.radars N.kept N.looks t m (decide (m.Key∈ksN N)):=by
 intro n
 induction n with
 | zero=>intro i _ _ h;omega
 | succ n ih =>
  intro i c hi hn hc;rw [Br];unfold Du
  by_cases hcc:i<(ksN N).length
  ·rw [Cx (dT (by omega)),gdg i (ksN N)[i] rfl (List.getElem?_eq_getElem hcc),ckb (by omega)];refine ih (i+1) _ hcc (by omega) ?_;rw [List.take_succ_eq_append_getElem hcc]
   cases c with
   | true =>
    have:m.Key∈(ksN N).take i:=of_decide_eq_true hc.symm;rw [dT (List.mem_append.2 (.inl this))];rfl
   | false =>
    have h1:m.Key∉(ksN N).take i:=of_decide_eq_false hc.symm;show ((ksN N)[i].Name==m.Key.Name&&(((ksN N)[i].Tilt==m.Key.Tilt)&&(((ksN N)[i].Time==m.Key.Time)&&true)))=_;rw [Z0,decide_eq_decide];exact ⟨fun e=>List.mem_append.2 (.inr (by rw [e];exact .head _)),fun h=>(List.mem_append.1 h).elim (fun h=>absurd h h1) (fun h=>(List.mem_singleton.1 h).symm)⟩
  ·rw [Bg (dF (by omega))];rw [List.take_of_length_le (by omega)] at hc;rw [hc]
theorem Z3 {F:Nat} {s:mosaic_Spec} {N:mosaic_Node} {p2:law11_Post} {p3 p4:Int} (hF:1000≤F) (h:RG F s) (hN:NI F s N) (h0:N.horizon=0) (hn:tot N.kept≤100) (hp2:K3 p2) (hp3:0≤p3∧p3≤65535) (hp4:0≤p4∧p4≤65535) :
  Cy F p2 p3 p4 s N.spec.Grid.X N.spec.Grid.Y N.horizon N.count N.spec.Grid.Size N.spec.Grid.Wide N.spec.Grid.High N.spec.Earth.Lo N.spec.Earth.Hi N.spec.Radars N.spec.Age N.radars N.kept N.looks=Ay F:=by
 have ht:=tm hp3.1 (y:=4000) (by omega);obtain ⟨t,et⟩:∃t,t=p3.tmod 4000:=⟨_,rfl⟩;rw [←et] at ht;obtain ⟨hm,_,_⟩:=Wa h hp2;have hks:=hN.small;have hkl:=(Hl N).1;have e0:Cy F p2 p3 p4 s N.spec.Grid.X N.spec.Grid.Y N.horizon N.count N.spec.Grid.Size N.spec.Grid.Wide N.spec.Grid.High N.spec.Earth.Lo N.spec.Earth.Hi N.spec.Radars N.spec.Age N.radars N.kept N.looks =
   (ck p3).bind fun x275=>(D3 x275 4000).bind fun x276=>(Cj F p2 s).bind fun y278=>(Dk F N).bind fun y285 =>
   Br F p4 s N.spec.Grid.X N.spec.Grid.Y N.horizon N.count N.spec.Grid.Size N.spec.Grid.Wide N.spec.Grid.High N.spec.Earth.Lo N.spec.Earth.Hi N.spec.Radars N.spec.Age N.radars N.kept N.looks x276 y278 y285 F false 0:=rfl
 rw [e0,ckb (by omega),Fc (by omega),←et,U8 (by omega) h hp2,sbd,Nm (by omega),sbd];refine (Za (by omega) F 0 false (Nat.zero_le _) (by omega) (by rw [List.take_zero,dF (fun h=>by cases h)])).trans ?_
 exact Z4 hF h hN h0 hn hm (by omega) hp4 rfl
theorem Xh {F:Nat} {s:mosaic_Spec} {l:List law11_Post} {p2:law11_Post} {p3 p4:Int} (hF:1000≤F) (h:RG F s) (hp:∀p∈l,K3 p) (hl:l.length≤12) (hp2:K3 p2) (hp3:0≤p3∧p3≤65535) (hp4:0≤p4∧p4≤65535) :
  ∀(n i:Nat) (N:mosaic_Node),i≤l.length→l.length-i<n→NI F s N→N.horizon=0→N.count≤i→C5 F l p2 p3 p4 s n N.spec.Grid.X N.spec.Grid.Y N.horizon N.count N.spec.Grid.Size N.spec.Grid.Wide N.spec.Grid.High N.spec.Earth.Lo N.spec.Earth.Hi N.spec.Radars N.spec.Age N.radars N.kept N.looks (i:Int)=Ay F:=by
 intro n
 induction n with
 | zero=>intro i N _ h;omega
 | succ n ih =>
  intro i N hi hn hN hh hc;have hcount:=hN.count;rw [C5];unfold Dh
  by_cases hc2:i<l.length
  ·have hpo:=hp _ (List.getElem_mem hc2);obtain ⟨hm,ht3,htm⟩:=Wa h hpo;obtain ⟨r,b,e,hr,-⟩:=Ri hF h.gs hN hm (by omega) (by omega);rw [Cx (dT (by omega)),F1 i l[i] rfl (List.getElem?_eq_getElem hc2),U8 (by omega) h hpo,sbd];rw [show (mosaic_Node.mk (mosaic_Spec.mk (api_Grid.mk N.spec.Grid.X N.spec.Grid.Y N.spec.Grid.Size N.spec.Grid.Wide N.spec.Grid.High) (api_Span.mk N.spec.Earth.Lo N.spec.Earth.Hi) N.spec.Radars N.spec.Age) N.radars N.horizon N.kept N.count N.looks)=N from rfl];rw [e,sbd,ckb (by omega)]
   cases b with
   | true=>exact ih (i+1) N (by omega) (by omega) hN hh (by omega)
   | false=>exact ih (i+1) (Lc N (Ka l[i] s) r) (by omega) (by omega) (hN.put hm hr) hh (by show N.count+1≤_;omega)
  ·rw [Bg (dF (by omega))];exact Z3 hF h hN hh (by omega) hp2 hp3 hp4
theorem Uc:Gz 2000=some true:=by kernel_rfl
theorem Pl (n:law11_Net) (l:List law11_Post) (p2:law11_Post) (p3 p4:Int) (hn:Qc n) (hl:∀p∈l,K3 p) (hp2:K3 p2) (hp3:0≤p3∧p3≤65535) (hp4:0≤p4∧p4≤65535):E6 2000 n l p2 p3 p4=some true:=by
 have hw:Ay 2000=some true:=by unfold Ay;rw [Uc];rfl
 have h:=Y1 (F:=2000) hn;unfold E6
 by_cases hc:l.length≤12
 ·rw [Bg (dF (by omega))];have e:E7 2000 (law11_Net.mk n.Wide n.High ((law11_Station.mk n.Stations.1.X n.Stations.1.Y n.Stations.1.Z n.Stations.1.Rose n.Stations.1.Gates n.Stations.1.Width n.Stations.1.Lo n.Stations.1.Hi),(law11_Station.mk n.Stations.2.1.X n.Stations.2.1.Y n.Stations.2.1.Z n.Stations.2.1.Rose n.Stations.2.1.Gates n.Stations.2.1.Width n.Stations.2.1.Lo n.Stations.2.1.Hi),(law11_Station.mk n.Stations.2.2.X n.Stations.2.2.Y n.Stations.2.2.Z n.Stations.2.2.Rose n.Stations.2.2.Gates n.Stations.2.2.Width n.Stations.2.2.Lo n.Stations.2.2.Hi)) n.Count n.Age)=some (Kq n):=Xm (by omega) hn;rw [e,sbd,Yq (by omega) h,sbd];have:=Xh (F:=2000) (by omega) h hl hc hp2 hp3 hp4 2000 0 (Sx (Kq n)) (by omega) (by omega) Uj rfl (Int.le_refl _);exact this.trans hw
 ·rw [Cx (dT (by omega)),Uc];rfl
end Go.Proofs.YtkbjbnkkfifbmaaGreat
