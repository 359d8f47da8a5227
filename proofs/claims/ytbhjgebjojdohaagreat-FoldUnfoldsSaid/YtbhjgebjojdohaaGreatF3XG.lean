import Derived.Test.YtbhjgebjojdohaaGreatF3XD
import Derived.Lib.DecodeN
set_option linter.unusedVariables false
set_option linter.unusedSimpArgs false
set_option linter.unusedSectionVars false
namespace Go.Proofs.YtbhjgebjojdohaaGreat
open Go Go.RowKit Go.Eng
set_option maxRecDepth 10000
theorem ckb {β:Type} {x:Int} {f:Int→Option β} (h:-9000000000000000000≤x∧x≤9000000000000000000):(ck x).bind f=f x:=by
 unfold ck;rw [if_pos (by omega)];rfl
theorem ck1 {x:Int} (h:-9000000000000000000≤x∧x≤9000000000000000000):ck x=some x:=by
 unfold ck;rw [if_pos (by omega)]
theorem gdT {α:Type} {g:Bool} {o:Option α} {d:α} (h:g=true):gd g o d=o:=by subst h;rfl
theorem gdF {α:Type} {g:Bool} {o:Option α} {d:α} (h:g=false):gd g o d=some d:=by subst h;rfl
theorem Ap {α:Type} {c:Bool} {x y:α} (h:c=true):(bif c then x else y)=x:=by rw [h];rfl
theorem An {α:Type} {c:Bool} {x y:α} (h:c=false):(bif c then x else y)=y:=by rw [h];rfl
theorem sb {α β:Type} {x:α} {f:α→Option β}:(some x).bind f=f x:=rfl
theorem Bm {α β:Type} {l:List α} {i:Int} {f:α→Option β} (d:α) (h:0≤i∧i<l.length):(Ak l i).bind f=f (l.getD i.toNat d):=by
 unfold Ak;rw [if_pos h.1,List.getElem?_eq_getElem (by omega),List.getD_eq_getElem?_getD,List.getElem?_eq_getElem (by omega)];rfl
theorem Jy {α β:Type} {l k:List α} {B:Nat} {f:List α→Option β} (h:(l.length+k.length)*B≤140737488355328∧l.length+k.length≤9223372036854775807):(apd B l k).bind f=f (l++k):=by
 unfold apd;rw [if_pos h];rfl
def pt (t:zH):zR:=⟨t.Lambda,t.Kind,t.First,t.Second,t.Count⟩
def S6 (t:zH):Bool :=
 decide (10000≤t.Lambda∧t.Lambda≤1000000∧200≤t.First∧t.First≤5000∧t.Count≤64 ∧
  ((t.Kind=1∧t.Second=0∧2≤t.Count)∨(t.Kind=2∧t.Count.tmod 2=0∧4≤t.Count∧200≤t.Second∧t.Second≤5000∧t.First<t.Second) ∨
   (t.Kind=3∧3≤t.Count∧200≤t.Second∧t.Second≤5000∧t.First<t.Second)))
def Fi (t:zH):Int:=if t.Kind≠1∧t.Kind≠2∧t.Kind≠3 then 2 else if S6 t=true then 0 else 3
theorem B6s (x:Int):V4 x 2=some (x.tmod 2):=rfl
theorem Vs (F:Nat) (t:zH):Fy F (pt t)=some (Fi t):=by
 unfold Fy E6 Fo Fi S6 Ac pt;simp only [B6s,Option.bind_some]
 by_cases h1:t.Kind=1
 ·simp [h1,cond_eq_ite];grind
 ·by_cases h2:t.Kind=2
  ·simp [h2,cond_eq_ite];grind
  ·by_cases h3:t.Kind=3
   ·simp [h3,cond_eq_ite];grind
   ·simp [h1,h2,h3,cond_eq_ite]
theorem V3 (F:Nat) (t:zH):Ee F t=some (Fi t):=by
 unfold Ee D0 Fi S6 Ag;simp only [B6s,Option.bind_some]
 by_cases h1:t.Kind=1
 ·simp [h1,cond_eq_ite];grind
 ·by_cases h2:t.Kind=2
  ·simp [h2,cond_eq_ite];grind
  ·by_cases h3:t.Kind=3
   ·simp [h3,cond_eq_ite];grind
   ·simp [h1,h2,h3,cond_eq_ite]
def Nj (s:zA):Bool:=decide (-32768≤s.Lo∧s.Lo≤32767∧s.Lo≤s.Hi∧s.Hi≤s.Lo+65535)
theorem A7p (F:Nat) (s:zA):K8 F s=some (Nj s):=by
 unfold K8 Ag Nj
 by_cases h:-32768≤s.Lo∧s.Lo≤32767
 ·have e:(bif decide (s.Lo≥-32768) then decide (s.Lo≤32767) else false)=true:=by simp [h.1,h.2]
  rw [e,gdT (g:=true==true&&true) rfl,ckb (by omega),gdT (g:=true==true&&true) rfl,ckb (by omega)];simp [cond_eq_ite]
  grind
 ·have e:(bif decide (s.Lo≥-32768) then decide (s.Lo≤32767) else false)=false:=by simp [cond_eq_ite];omega
  rw [e,gdF (g:=false==true&&true) rfl,sb,gdF (g:=false==true&&true) rfl,sb];simp
  grind
theorem Qw (p:List zA) (k:Int→Option Bool) (i:Nat) (s:zA) (h:p[i]? = some s) (hi:i<1000):Dj p k (i:Int)=if Nj s then k ((i:Int)+1) else some false:=by
 have hl:=(List.getElem?_eq_some_iff.1 h).1;unfold Dj;rw [Ap (by simpa using hl),Bm s (by omega)];simp only [List.getD_eq_getElem?_getD,Int.toNat_natCast,h,Option.getD_some];unfold Nj Ac
 by_cases hw:-32768≤s.Lo∧s.Lo≤32767
 ·have e:(bif decide (-32768≤s.Lo) then decide (s.Lo≤32767) else false)=true:=by simp [hw.1,hw.2]
  rw [e,gdT (g:=(!true)==false&&true) rfl,ckb (by omega),gdT (g:=(!true)==false&&true) rfl,ckb (by omega),ckb (by omega)];have e2:s.Lo+65536-1=s.Lo+65535:=by omega
  rw [e2]
  by_cases h2:s.Lo≤s.Hi∧s.Hi≤s.Lo+65535
  ·rw [if_pos (by simp [hw,h2])];simp [h2]
  ·rw [if_neg (by simp;intro _ _ h3;omega)];have:(bif decide (s.Lo≤s.Hi) then decide (s.Hi≤s.Lo+65535) else false)=false:=by simp [cond_eq_ite];omega
   rw [this];rfl
 ·have e:(bif decide (-32768≤s.Lo) then decide (s.Lo≤32767) else false)=false:=by simp [cond_eq_ite];omega
  rw [e,gdF (g:=(!false)==false&&true) rfl,sb,gdF (g:=(!false)==false&&true) rfl,sb,if_neg (by simp;intro h1 h2;omega)];rfl
theorem Uy (F:Nat) (hF:4≤F) (a b c:zA):N8 F [a,b,c]=some (Nj a&&Nj b&&Nj c):=by
 obtain ⟨n,rfl⟩:∃n,F=n+4:=⟨F-4,by omega⟩;show Dj [a,b,c] (Ed [a,b,c] (n+3)) ((0:Nat):Int)=_;rw [Qw _ _ 0 a rfl (by omega)]
 cases ha:Nj a
 ·rfl
 ·show Dj [a,b,c] (Ed [a,b,c] (n+2)) ((1:Nat):Int)=_;rw [Qw _ _ 1 b rfl (by omega)]
  cases hb:Nj b
  ·rfl
  ·show Dj [a,b,c] (Ed [a,b,c] (n+1)) ((2:Nat):Int)=_;rw [Qw _ _ 2 c rfl (by omega)]
   cases hc:Nj c
   ·rfl
   ·rfl
def inB (s:zA) (lo hi:Int):Bool:=decide (lo≤s.Lo∧s.Lo≤s.Hi∧s.Hi≤hi)
def noB (s:zA):Bool:=decide (s.Lo=0∧s.Hi=0)
def Xy (x:zE):Bool :=
 inB x.Power 0 1073741824&&(if x.Kind=1 then decide (x.Power.Lo=0)&&noB x.Steps.1&&noB x.Steps.2&&decide (x.Spread=0)&&noB x.Ratio&&noB x.Match&&noB x.Turn
  else decide (1≤x.Power.Lo)&&inB x.Ratio 0 1000000&&inB x.Match 0 1000&&decide (0≤x.Spread∧x.Spread≤65535) &&
   (if x.Kind=2 then noB x.Steps.1&&noB x.Steps.2&&noB x.Turn else Nj x.Steps.1&&Nj x.Steps.2&&Nj x.Turn))
def Kx (x:zE):Int:=if x.Kind≠1∧x.Kind≠2∧x.Kind≠3 then 2 else if Xy x=true then 0 else 3
theorem Zd (s:zA) (lo hi:Int):Ae s lo hi=inB s lo hi:=by
 unfold Ae inB;rw [Bool.eq_iff_iff];simp [cond_eq_ite];omega
theorem A35 (s:zA) (lo hi:Int):C3 s lo hi=inB s lo hi:=by
 unfold C3 inB;rw [Bool.eq_iff_iff];simp [cond_eq_ite];omega
theorem B38 (s:zA):(((s.Lo:Int)==0)&&(((s.Hi:Int)==0)&&true))=noB s:=by
 unfold noB;rw [Bool.eq_iff_iff];simp
theorem Ph (s:zA):zA.mk s.Lo s.Hi=s:=rfl
theorem Hk (p1:zE):(zE.mk p1.Kind p1.Power ((zA.mk p1.Steps.1.Lo p1.Steps.1.Hi),(zA.mk p1.Steps.2.Lo p1.Steps.2.Hi)) p1.Spread p1.Ratio p1.Match p1.Turn)=p1:=rfl
theorem A4g (F:Nat) (hF:4≤F) (x:zE):Je F x=some (Kx x):=by
 unfold Je Cc Gc Cc Kx Xy Ac;simp only [Ph,Zd,B38,Uy F hF,Option.bind_some]
 by_cases h1:x.Kind=1
 ·simp [h1,cond_eq_ite];grind
 ·by_cases h2:x.Kind=2
  ·simp [h2,cond_eq_ite];grind
  ·by_cases h3:x.Kind=3
   ·simp [h3,cond_eq_ite];grind
   ·simp [h1,h2,h3,cond_eq_ite]
theorem A2b (F:Nat) (x:zE):Gm F x=some (Kx x):=by
 unfold Gm Kx Xy Ag;simp only [Ph,A35,B38,A7p,Option.bind_some]
 by_cases h1:x.Kind=1
 ·simp [h1,cond_eq_ite];grind
 ·by_cases h2:x.Kind=2
  ·simp [h2,cond_eq_ite];grind
  ·by_cases h3:x.Kind=3
   ·simp [h3,cond_eq_ite];unfold gd
    cases Nj x.Steps.1<;>cases Nj x.Steps.2<;>cases Nj x.Turn<;>simp<;>grind
   ·simp [h1,h2,h3,cond_eq_ite]
theorem A0t {x y:Int} (hx:-4000000000000000000≤x∧x≤4000000000000000000) (hy:0<y):A4i x y=some (x.tdiv y)∧(x.tdiv y≤4000000000000000000∧-4000000000000000000≤x.tdiv y):=by
 have hb:x.tdiv y≤4000000000000000000∧-4000000000000000000≤x.tdiv y:=by
  have h:=Int.natAbs_tdiv_le_natAbs x y;omega
 refine ⟨?_,hb⟩;unfold A4i;rw [if_neg (by omega),ck1 (by omega)]
theorem T9 (x y:Int) (hy:0<y):x/y=if x.tmod y<0 then x.tdiv y-1 else x.tdiv y:=by
 have h1:=Int.tmod_add_mul_tdiv x y;have h2:x.tmod y<y:=by
  rcases Int.le_total 0 x with h|h
  ·exact Int.tmod_lt_of_pos x hy
  ·exact Int.tmod_lt_of_pos x hy
 have h3:-y<x.tmod y:=by
  have:=Int.tmod_lt_of_pos (-x) hy;rw [Int.neg_tmod] at this;omega
 split
 ·rename_i h
  apply Int.le_antisymm
  ·apply Int.le_of_lt_add_one;apply Int.ediv_lt_of_lt_mul hy;have:(x.tdiv y-1+1)*y=y*x.tdiv y:=by rw [Int.sub_add_cancel,Int.mul_comm]
   omega
  ·apply Int.le_ediv_of_mul_le hy;have:(x.tdiv y-1)*y=y*x.tdiv y-y:=by rw [Int.sub_mul,Int.one_mul,Int.mul_comm]
   omega
 ·rename_i h
  apply Int.le_antisymm
  ·apply Int.le_of_lt_add_one;apply Int.ediv_lt_of_lt_mul hy;have:(x.tdiv y+1)*y=y*x.tdiv y+y:=by rw [Int.add_mul,Int.one_mul,Int.mul_comm]
   omega
  ·apply Int.le_ediv_of_mul_le hy;have:x.tdiv y*y=y*x.tdiv y:=Int.mul_comm ..;omega
theorem Wx (F:Nat) {x y:Int} (hx:-4000000000000000000≤x∧x≤4000000000000000000) (hy:0<y):Mu F x y=some (x/y):=by
 obtain ⟨h,hb⟩:=A0t hx hy;have h1:=Int.tmod_add_mul_tdiv x y;have hm:x.tdiv y*y=y*x.tdiv y:=Int.mul_comm ..;have h2:=Int.tmod_lt_of_pos x hy;have h3:x.natAbs.mod y.natAbs≤x.natAbs:=Nat.mod_le _ _;have h4:(x.tmod y).natAbs≤x.natAbs:=by rw [Int.natAbs_tmod];exact h3
 unfold Mu;rw [h,sb,ckb (by omega),T9 x y hy]
 by_cases hc:x.tmod y<0
 ·rw [if_pos hc,Ap (by simp;omega),ckb (by omega)]
 ·rw [if_neg hc,An (by simp;omega)]
theorem A1k (F:Nat) {x y:Int} (hx:-4000000000000000000≤x∧x≤4000000000000000000) (hy:0<y):Mx F x y=some (x/y):=by
 obtain ⟨h,hb⟩:=A0t hx hy;unfold Mx;rw [h,sb];unfold V4;rw [if_neg (by omega),sb,T9 x y hy]
 by_cases hc:x.tmod y<0
 ·rw [if_pos hc,Ap (by simpa using hc),ckb (by omega)]
 ·rw [if_neg hc,An (by simpa using hc)]
theorem A8l {x y:Int} (hx:-4000000000000000000≤x∧x≤4000000000000000000) (hy:0<y):-4000000000000000001≤x/y∧x/y≤4000000000000000000:=by
 have:=(A0t hx hy).2;rw [T9 x y hy]
 split<;>omega
theorem Q9 {x:Int} (hx:-4000000000000000001≤x∧x≤4000000000000000001):IntKind.i64.wrap (0-x)=-x:=by
 rw [Go.Eng.wrap64 (by omega)];omega
theorem B0u (F:Nat) {x y:Int} (hx:-4000000000000000000≤x∧x≤4000000000000000000) (hy:0<y):Ri F x y=some (-(-x/y)):=by
 have:=A8l (x:=-x) (y:=y) (by omega) hy;unfold Ri;rw [Q9 (by omega),Wx F (by omega) hy,sb,Q9 (by omega)]
theorem B5s (F:Nat) {x y:Int} (hx:-4000000000000000000≤x∧x≤4000000000000000000) (hy:0<y):Rj F x y=some (-(-x/y)):=by
 have:=A8l (x:=-x) (y:=y) (by omega) hy;unfold Rj;rw [Q9 (by omega),A1k F (by omega) hy,sb,Q9 (by omega)]
def A00 (t:zH) (w:Int):Int×Int :=
 if Fi t≠0 then (0,Fi t) else if w=0 then (t.First,0) else if w=1∧t.Kind≠1 then (t.Second,0) else (0,2)
theorem A01 {t:zH} (h:Fi t=0):S6 t=true:=by
 unfold Fi at h
 split at h
 ·cases h
 ·split at h
  ·assumption
  ·cases h
theorem A4h (F:Nat) (t:zH) (w:Int):Hr F (pt t) w=some (A00 t w):=by
 unfold Hr A00;rw [Vs,sb]
 by_cases h:Fi t=0
 ·have hk:=A01 h;unfold S6 at hk;simp only [decide_eq_true_eq] at hk;simp only [h,Ac,pt];have hF:t.First≠0:=by omega
  by_cases h0:w=0
  ·subst h0;simp [hF,cond_eq_ite]
  ·by_cases h1:w=1
   ·subst h1
    by_cases hs:t.Kind=1
    ·have:t.Second=0:=by omega
     simp [hs,this,cond_eq_ite]
    ·have:t.Second≠0:=by omega
     simp [hs,this,cond_eq_ite]
   ·have e:(bif decide (0≤w) then decide (w≤1) else false)=false:=by simp [cond_eq_ite];omega
    rw [e];simp [h0,h1,cond_eq_ite]
 ·rw [Ap (by simpa using h),if_pos h]
theorem B0h (F:Nat) (t:zH) (w:Int):P8 F t w=some (A00 t w):=by
 unfold P8 A00;rw [V3,sb]
 by_cases h:Fi t=0
 ·simp only [h]
  by_cases h0:w=0
  ·subst h0;simp
  ·by_cases h1:w=1
   ·subst h1
    by_cases hs:t.Kind=1
    ·simp [hs,cond_eq_ite]
    ·simp [hs,cond_eq_ite]
   ·simp [h0,h1,cond_eq_ite]
 ·rw [Ap (by simpa using h),if_pos h]
def us (t:zH) (w:Int):Int:=if w=0 then t.First else t.Second
def spd (t:zH) (w:Int) (s:zA) (k:Int):zA :=
 ⟨500*t.Lambda*(s.Lo+k*65536)/(65536*us t w),-(-(500*t.Lambda*(s.Hi+k*65536))/(65536*us t w))⟩
def hasT (t:zH) (w:Int):Prop:=Fi t=0∧(w=0∨(w=1∧t.Kind≠1))
theorem hasT.time {t:zH} {w:Int} (h:hasT t w):A00 t w=(us t w,0)∧200≤us t w∧us t w≤5000∧10000≤t.Lambda∧t.Lambda≤1000000:=by
 obtain ⟨h1,h2⟩:=h;have hk:=A01 h1;unfold S6 at hk;simp only [decide_eq_true_eq] at hk;unfold A00 us;rw [if_neg (by simpa using h1)];rcases h2 with rfl|⟨rfl,h2⟩
 ·simp;omega
 ·simp [h2];omega
theorem Wm {L p:Int} (hL:10000≤L∧L≤1000000) (hp:-5000000≤p∧p≤5000000):-4000000000000000000≤500*L*p∧500*L*p≤4000000000000000000:=by
 have h1:500*L*p≤500*L*5000000:=Int.mul_le_mul_of_nonneg_left hp.2 (by omega);have h2:500*L*(-5000000)≤500*L*p:=Int.mul_le_mul_of_nonneg_left hp.1 (by omega);omega
theorem Vr (F:Nat) {t:zH} {w k:Int} {s:zA} (h:hasT t w) (hs:inB s (-131072) 131072=true) (hk:-64≤k∧k≤64):Lw F (pt t) w s k=some (spd t w s k,0):=by
 obtain ⟨ht,hu1,hu2,hL⟩:=h.time;have hs':=hs;unfold inB at hs';simp only [decide_eq_true_eq] at hs';have b1:=Wm (p:=s.Lo+k*65536) hL (by omega);have b2:=Wm (p:=s.Hi+k*65536) hL (by omega);have hw:Ac k (-64) 64=true:=by unfold Ac;simp [hk]
 unfold Lw;rw [A4h,sb,ht];simp only [Zd,hs,hw];refine Eq.trans (An rfl) (Eq.trans (An rfl) ?_);unfold He Hf;simp only [pt];rw [ckb (by omega),ckb (by omega),ckb (by omega),ckb (by omega),ckb (by omega),Wx F (by omega) (by omega),sb,sb,ckb (by omega),ckb (by omega),ckb (by omega),ckb (by omega),ckb (by omega),B0u F (by omega) (by omega),sb,sb];rfl
theorem Zs (F:Nat) {t:zH} {w k:Int} {s:zA} (h:hasT t w) (hs:inB s (-131072) 131072=true) (hk:-64≤k∧k≤64):Ly F t w s k=some (spd t w s k,0):=by
 obtain ⟨ht,hu1,hu2,hL⟩:=h.time;have hs':=hs;unfold inB at hs';simp only [decide_eq_true_eq] at hs';have b1:=Wm (p:=s.Lo+k*65536) hL (by omega);have b2:=Wm (p:=s.Hi+k*65536) hL (by omega);have hw:Ag k (-64) 64=true:=by unfold Ag;simp [hk]
 unfold Ly;rw [B0h,sb,ht];simp only [A35,hs,hw];refine Eq.trans (An rfl) (Eq.trans (An rfl) ?_);rw [ckb (by omega),ckb (by omega),ckb (by omega),ckb (by omega),ckb (by omega),A1k F (by omega) (by omega),sb,ckb (by omega),ckb (by omega),ckb (by omega),ckb (by omega),ckb (by omega),B5s F (by omega) (by omega),sb];rfl
def comm (a b:zA):zA:=⟨if b.Lo>a.Lo then b.Lo else a.Lo,if b.Hi<a.Hi then b.Hi else a.Hi⟩
theorem R5 (a b:zA):A3 a b=(comm a b,decide ((comm a b).Lo≤(comm a b).Hi)):=rfl
theorem Sv (a b:zA):Ab a b=(comm a b,decide ((comm a b).Lo≤(comm a b).Hi)):=rfl
def J4 (x:zE) (w:Int):zA:=if w=0 then x.Steps.1 else x.Steps.2
def spw (t:zH) (x:zE) (m:Int) (w k:Int):zA:=comm (spd t w (J4 x w) k) ⟨-m,m⟩
def isw (t:zH) (x:zE) (m:Int) (w k:Int):Bool:=decide ((spw t x m w k).Lo≤(spw t x m w k).Hi)
theorem Vk {x:zE} (h:Kx x=0) (hk:x.Kind=3) (w:Int):inB (J4 x w) (-131072) 131072=true:=by
 unfold Kx at h;rw [if_neg (by omega)] at h;have h2:Xy x=true:=by
  split at h
  ·assumption
  ·cases h
 unfold Xy at h2;rw [if_neg (by omega),if_neg (by omega)] at h2;simp only [Bool.and_eq_true] at h2;unfold Nj inB J4 at *;simp only [decide_eq_true_eq] at *
 split<;>omega
theorem A0u (F:Nat) {t:zH} {x:zE} {w k m:Int} (h:hasT t w) (hs:∀w,inB (J4 x w) (-131072) 131072=true) (hk:-64≤k∧k≤64) (hm:1≤m∧m≤200000) :
  J5 F t x w k m=some (spw t x m w k,isw t x m w k):=by
 have hn:IntKind.i64.wrap (0-m)=-m:=Q9 (by omega);unfold J5;rcases h.2 with rfl|⟨rfl,h2⟩
 ·refine Eq.trans (Ap rfl) ?_;rw [Ph,show x.Steps.1=J4 x 0 from rfl,Zs F h (hs 0) hk,sb,hn];rfl
 ·refine Eq.trans (An rfl) (Eq.trans (Ap rfl) ?_);rw [Ph,show x.Steps.2=J4 x 1 from rfl,Zs F h (hs 1) hk,sb,hn];rfl
def kr:Nat→Int→List Int
 | 0,_=>[]
 | n+1,x=>x::kr n (x+1)
theorem B4c:∀{n:Nat} {x y:Int},y∈kr n x→x≤y∧y<x+n:=by
 intro n
 induction n with
 | zero=>intro x y h;cases h
 | succ n ih =>
  intro x y h;rcases List.mem_cons.1 h with rfl|h
  ·omega
  ·have:=ih h;omega
theorem A99:∀(n:Nat) (x:Int),(kr n x).length=n:=by
 intro n
 induction n with
 | zero=>intro x;rfl
 | succ n ih=>intro x;simp [kr,ih]
section
variable {t:zH} {x:zE} {m w:Int}
def og (t:zH) (x:zE) (m w k:Int):Option zL:=if isw t x m w k=true then some ⟨k,spw t x m w k⟩ else none
theorem B08 {σ:Type} (F:Nat) (body:σ→zL→Option (σ×Bool)) (k1:Int→σ→Option (σ×Bool)) (h:hasT t w) (hs:∀w,inB (J4 x w) (-131072) 131072=true) (hm:1≤m∧m≤200000) {k:Int} (hk:-64≤k∧k≤64) (s:σ) :
  D3 F body (pt t) w x m k1 k s=bif isw t x m w k then (body s ⟨k,spw t x m w k⟩).bind (fun q=>bif q.2 then k1 (k+1) q.1 else some (q.1,false)) else k1 (k+1) s:=by
 have hn:IntKind.i64.wrap (0-m)=-m:=Q9 (by omega);have hc:∀{β:Type} (f:Int→Option β),(ck (k+1)).bind f=f (k+1):=fun f=>ckb (by omega);unfold D3;rw [Ap (by simpa using hk.2)];rcases h.2 with rfl|⟨rfl,h2⟩
 ·refine Eq.trans (Ap rfl) ?_;rw [Ph,show x.Steps.1=J4 x 0 from rfl,Vr F h (hs 0) hk,sb,hn];simp only [hc];rfl
 ·refine Eq.trans (An rfl) (Eq.trans (Ap rfl) ?_);rw [Ph,show x.Steps.2=J4 x 1 from rfl,Vr F h (hs 1) hk,sb,hn];simp only [hc];rfl
theorem B5y (l:List zL) (o:zL) (h:l.length≤1000):Ep (l,0) o=some ((l++[o],0),true):=by
 unfold Ep;rw [Jy (by simp;omega)]
theorem B07 (F:Nat) (h:hasT t w) (hs:∀w,inB (J4 x w) (-131072) 131072=true) (hm:1≤m∧m≤200000):∀(n:Nat) (N:Nat) (k:Int) (l:List zL),k+n=65→-64≤k→n<N→l.length+n≤1000 →
  Dt F Ep (pt t) w x m N k (l,0)=some ((l++(kr n k).filterMap (og t x m w),0),true):=by
 intro n
 induction n with
 | zero =>
  intro N k l hk hk2 hN hl;obtain ⟨N,rfl⟩:∃N',N=N'+1:=⟨N-1,by omega⟩;show D3 F Ep (pt t) w x m (Dt F Ep (pt t) w x m N) k (l,0)=_;unfold D3;rw [An (by simp;omega)];simp [kr]
 | succ n ih =>
  intro N k l hk hk2 hN hl;obtain ⟨N,rfl⟩:∃N',N=N'+1:=⟨N-1,by omega⟩;show D3 F Ep (pt t) w x m (Dt F Ep (pt t) w x m N) k (l,0)=_;rw [B08 F _ _ h hs hm (by omega)]
  cases hw:isw t x m w k with
  | true =>
   rw [cond_true,B5y l _ (by omega),sb];refine Eq.trans (Ap rfl) ?_;rw [ih N (k+1) _ (by omega) (by omega) (by omega) (by simp;omega)];simp [kr,og,hw]
  | false =>
   rw [cond_false,ih N (k+1) _ (by omega) (by omega) (by omega) (by omega)];simp [kr,og,hw]
def Kf (t:zH) (x:zE) (m w:Int):List zL:=(kr 129 (-64)).filterMap (og t x m w)
theorem Nh:(Kf t x m w).length≤129:=by
 have:=List.length_filterMap_le (og t x m w) (kr 129 (-64));rw [A99] at this;exact this
theorem A9u {k:Int} {o:zL} (h:og t x m w k=some o):o.whole=k:=by
 unfold og at h
 split at h
 ·cases h;rfl
 ·cases h
theorem B4u {l:List Int} {o:zL} (h:o∈l.filterMap (og t x m w)):o.whole∈l:=by
 obtain ⟨k,hk,ho⟩:=List.mem_filterMap.1 h;rw [A9u ho];exact hk
theorem A4c:Kf t x m w=(og t x m w (-64)).toList++(kr 127 (-63)).filterMap (og t x m w)++(og t x m w 64).toList:=by
 unfold Kf;rw [show kr 129 (-64)=[-64]++kr 127 (-63)++[64] from by kernel_rfl,List.filterMap_append,List.filterMap_append]
 cases h:og t x m w (-64)<;>cases h2:og t x m w 64<;>simp [h,h2]
theorem Wj (F:Nat) (hF:200≤F) (h:hasT t w) (hs:∀w,inB (J4 x w) (-131072) 131072=true) (hm:1≤m∧m≤200000) :
  Nv F (pt t) x w m=some (if isw t x m w (-64)=true∨isw t x m w 64=true then ([],false) else (Kf t x m w,true)):=by
 unfold Nv;rw [Hk];unfold Ma;rw [B07 F h hs hm 129 F (-64) [] (by omega) (by omega) (by omega) (by simp),sb];refine Eq.trans (Ap rfl) ?_;simp only [List.nil_append];rw [show (kr 129 (-64)).filterMap (og t x m w)=Kf t x m w from rfl];have hlen:=Nh (t:=t) (x:=x) (m:=m) (w:=w);have hmid:∀o∈(kr 127 (-63)).filterMap (og t x m w),-63≤o.whole∧o.whole≤63:=fun o ho=>by
  have:=B4c (B4u ho);omega
 have hsp:=A4c (t:=t) (x:=x) (m:=m) (w:=w);generalize Kf t x m w=L at *;generalize (kr 127 (-63)).filterMap (og t x m w)=M at *
 cases h1:isw t x m w (-64) with
 | true =>
  have e1:og t x m w (-64)=some ⟨-64,spw t x m w (-64)⟩:=by unfold og;rw [if_pos h1]
  rw [e1] at hsp;have hsp2:L=⟨-64,spw t x m w (-64)⟩::(M++(og t x m w 64).toList):=by rw [hsp];rfl
  have hpos:decide (((L.length:Nat):Int)>0)=true:=by rw [hsp2];simp;omega
  have hll:0<L.length:=by rw [hsp2];simp
  have hu:L.getD (0:Int).toNat default=⟨-64,spw t x m w (-64)⟩:=by rw [hsp2];rfl
  simp only [hpos];have hw':((L.getD (0:Int).toNat default).whole == -64)=true:=by rw [hu];rfl
  rw [gdT (g:=true==true&&true) rfl,Bm default (by omega),hw',gdF (g:=true==false&&(true==true&&true)) rfl,sb,gdF (g:=true==false&&(true==true&&true)) rfl,sb,if_pos (Or.inl trivial)];rfl
 | false =>
  have e1:og t x m w (-64)=none:=by unfold og;rw [if_neg (by simp [h1])]
  rw [e1] at hsp;simp only [Option.toList,List.nil_append] at hsp
  cases h2:isw t x m w 64 with
  | true =>
   have e2:og t x m w 64=some ⟨64,spw t x m w 64⟩:=by unfold og;rw [if_pos h2]
   rw [e2] at hsp;simp only at hsp;have hll:0<L.length:=by rw [hsp];simp
   obtain ⟨u,hu,hm'⟩:∃u,L.getD 0 default=u∧u∈L:=⟨_,rfl,by rw [List.getD_eq_getElem?_getD,List.getElem?_eq_getElem hll];exact List.getElem_mem hll⟩;have huw:u.whole≠-64:=by
    rw [hsp] at hm';rcases List.mem_append.1 hm' with h|h
    ·have:=hmid _ h;omega
    ·simp at h;rw [h];simp
   have hpos:decide (((L.length:Nat):Int)>0)=true:=by simp;omega
   have hu':L.getD (0:Int).toNat default=u:=hu;have huw':(u.whole == -64)=false:=by simpa using huw
   simp only [hpos];rw [gdT (g:=true==true&&true) rfl,Bm default (by omega),hu',huw',gdT (g:=false==false&&(true==true&&true)) rfl,ckb (by omega),gdT (g:=false==false&&(true==true&&true)) rfl,Bm default (by omega),if_pos (Or.inr trivial)];refine Eq.trans (Ap ?_) rfl;refine Eq.trans (Ap rfl) (Eq.trans (An rfl) ?_);have e3:((L.length:Int)-1).toNat=M.length:=by rw [hsp];simp
   rw [e3,hsp];simp [List.getD_eq_getElem?_getD]
  | false =>
   have e2:og t x m w 64=none:=by unfold og;rw [if_neg (by simp [h2])]
   rw [e2] at hsp;simp only [List.append_nil] at hsp;subst hsp;rw [if_neg (by simp)]
   by_cases hll:0<L.length
   ·have hin:∀i,i<L.length→(L.getD i default).whole≠-64∧(L.getD i default).whole≠64:=fun i hi=>by
     have:L.getD i default∈L:=by rw [List.getD_eq_getElem?_getD,List.getElem?_eq_getElem hi];exact List.getElem_mem hi
     have:=hmid _ this;omega
    have ha:=(hin 0 hll).1;have hb:=(hin (L.length-1) (by omega)).2;have hpos:decide (((L.length:Nat):Int)>0)=true:=by simp;omega
    have ha':((L.getD (0:Int).toNat default).whole == -64)=false:=by simpa using ha
    have hb':((L.getD (L.length-1) default).whole==64)=false:=by simpa using hb
    have e3:((L.length:Int)-1).toNat=L.length-1:=by omega
    simp only [hpos];rw [gdT (g:=true==true&&true) rfl,Bm default (by omega),ha',gdT (g:=false==false&&(true==true&&true)) rfl,ckb (by omega),gdT (g:=false==false&&(true==true&&true)) rfl,Bm default (by omega),e3,hb'];rfl
   ·have:L=[]:=List.length_eq_zero_iff.1 (by omega);subst this;rfl
end
def Mb (s:zA):Bool:=decide (s.Lo≤s.Hi)
def gg (u s:zL):Option zC:=if Mb (comm u.speed s.speed)=true then some ⟨(u.whole,s.whole),comm u.speed s.speed⟩ else none
theorem Bk {α:Type} {l:List α} {i:Nat} (h:i<l.length) (d:α):l.drop i=l.getD i d::l.drop (i+1):=by
 rw [List.drop_eq_getElem_cons h,List.getD_eq_getElem?_getD,List.getElem?_eq_getElem h];rfl
theorem A25 (y4:List zL×Bool) (hl4:y4.1.length≤1000):∀(n N i:Nat) (acc:List zC),i+n=y4.1.length→n<N→acc.length+n≤1000000 →
  E7 y4 N acc (i:Int)=some (acc++(y4.1.drop i).map (fun f=>⟨(f.whole,0),f.speed⟩),true):=by
 intro n
 induction n with
 | zero =>
  intro N i acc hi hN hacc;obtain ⟨N,rfl⟩:∃N',N=N'+1:=⟨N-1,by omega⟩;show F8 y4 (E7 y4 N) acc (i:Int)=_;unfold F8;rw [An (by simp;omega),List.drop_eq_nil_of_le (by omega)];simp [Lc]
 | succ n ih =>
  intro N i acc hi hN hacc;obtain ⟨N,rfl⟩:∃N',N=N'+1:=⟨N-1,by omega⟩;show F8 y4 (E7 y4 N) acc (i:Int)=_;unfold F8;rw [Ap (by simp;omega),Bm default (by omega),Int.toNat_natCast,Jy (by simp;omega),ckb (by omega)];have:=ih N (i+1) (acc++[⟨((y4.1.getD i default).whole,0),(y4.1.getD i default).speed⟩]) (by omega) (by omega) (by simp;omega);rw [Int.natCast_add] at this;refine Eq.trans this ?_;rw [Bk (i:=i) (by omega) default];simp
theorem A80 (y72:List zL×Bool) (hl:y72.1.length≤1000) (x8:Int) (k3:List zC→Int→Option (List zC×Bool)) (u:zL):∀(n N i:Nat) (acc:List zC),i+n=y72.1.length→n<N→acc.length+n≤1000000 →
  Dc y72 x8 k3 u N acc (i:Int)=Jb x8 k3 (acc++(y72.1.drop i).filterMap (gg u)):=by
 intro n
 induction n with
 | zero =>
  intro N i acc hi hN hacc;obtain ⟨N,rfl⟩:∃N',N=N'+1:=⟨N-1,by omega⟩;show F7 y72 x8 k3 u (Dc y72 x8 k3 u N) acc (i:Int)=_;unfold F7;rw [An (by simp;omega),List.drop_eq_nil_of_le (by omega)];simp
 | succ n ih =>
  intro N i acc hi hN hacc;obtain ⟨N,rfl⟩:∃N',N=N'+1:=⟨N-1,by omega⟩;show F7 y72 x8 k3 u (Dc y72 x8 k3 u N) acc (i:Int)=_;unfold F7;rw [Ap (by simp;omega),Bm default (by omega),Int.toNat_natCast,R5];unfold Jc;rw [Bk (i:=i) (by omega) default];generalize y72.1.getD i default=v;have hck:∀(l:List zC),(ck ((i:Int)+1)).bind (fun x934=>Dc y72 x8 k3 u N l x934)=Dc y72 x8 k3 u N l ((i:Int)+1):=fun l=>ckb (by omega);simp only [hck]
  cases hc:Mb (comm u.speed v.speed) with
  | true =>
   refine Eq.trans (Ap hc) ?_;rw [Jy (by simp;omega)];have:=ih N (i+1) (acc++[⟨(u.whole,v.whole),comm u.speed v.speed⟩]) (by omega) (by omega) (by simp;omega);rw [Int.natCast_add] at this;refine Eq.trans this ?_;simp [gg,hc]
  | false =>
   refine Eq.trans (An hc) ?_;have:=ih N (i+1) acc (by omega) (by omega) (by omega);rw [Int.natCast_add] at this;refine Eq.trans this ?_;simp [gg,hc]
theorem Yh (F:Nat) (hF:2000≤F) (y4 y72:List zL×Bool) (hl4:y4.1.length≤200) (hl7:y72.1.length≤200):∀(n N i:Nat) (acc:List zC),i+n=y4.1.length→n<N→acc.length+n*200≤100000 →
  Db F y4 y72 N acc (i:Int)=some (acc++(y4.1.drop i).flatMap (fun u=>y72.1.filterMap (gg u)),y72.2):=by
 intro n
 induction n with
 | zero =>
  intro N i acc hi hN hacc;obtain ⟨N,rfl⟩:∃N',N=N'+1:=⟨N-1,by omega⟩;show F6 F y4 y72 (Db F y4 y72 N) acc (i:Int)=_;unfold F6;rw [An (by simp;omega),List.drop_eq_nil_of_le (by omega)];simp [Lb]
 | succ n ih =>
  intro N i acc hi hN hacc;obtain ⟨N,rfl⟩:∃N',N=N'+1:=⟨N-1,by omega⟩;show F6 F y4 y72 (Db F y4 y72 N) acc (i:Int)=_;unfold F6;rw [Ap (by simp;omega),Bm default (by omega),Int.toNat_natCast];rw [Bk (i:=i) (by omega) default];generalize y4.1.getD i default=u;have h2:=A80 y72 (by omega) (i:Int) (Db F y4 y72 N) u y72.1.length F 0 acc (by omega) (by omega) (by omega);refine Eq.trans h2 ?_;unfold Jb;rw [ckb (by omega),List.drop_zero];have hlen:=List.length_filterMap_le (gg u) y72.1;have:=ih N (i+1) (acc++y72.1.filterMap (gg u)) (by omega) (by omega) (by simp;omega);rw [Int.natCast_add] at this;refine Eq.trans this ?_;simp
section
variable {t:zH} {x:zE} {m:Int}
def rg2 (t:zH) (x:zE) (m k j:Int):Option zD :=
 if isw t x m 1 j=true∧Mb (comm (spw t x m 0 k) (spw t x m 1 j))=true then some ⟨(k,j),comm (spw t x m 0 k) (spw t x m 1 j)⟩ else none
def rg1 (t:zH) (x:zE) (m k:Int):Option zD:=if isw t x m 0 k=true then some ⟨(k,0),spw t x m 0 k⟩ else none
theorem A7o (F:Nat) (h1:hasT t 1) (hs:∀w,inB (J4 x w) (-131072) 131072=true) (hm:1≤m∧m≤200000) (x8:Int) (k4:List zD→Int→Option (List zD×Int)) (k:Int) (h0:isw t x m 0 k=true) :
  ∀(n N:Nat) (j:Int) (acc:List zD),j+n=65→-64≤j→n<N→acc.length+n≤1000000 →
  Ch F t x m k k4 (spw t x m 0 k,isw t x m 0 k) N acc j=Dl k k4 (acc++(kr n j).filterMap (rg2 t x m k)):=by
 have hk:t.Kind≠1:=by rcases h1.2 with h|h;cases h;exact h.2
 have ht:B9 t=2:=by unfold B9;simp [hk,cond_eq_ite]
 intro n
 induction n with
 | zero =>
  intro N j acc hj hj2 hN hacc;obtain ⟨N,rfl⟩:∃N',N=N'+1:=⟨N-1,by omega⟩;show Bn F t x m k k4 (spw t x m 0 k,isw t x m 0 k) (Ch F t x m k k4 (spw t x m 0 k,isw t x m 0 k) N) acc j=_;unfold Bn;rw [An (by simp [cond_eq_ite];intros;omega)];simp [kr]
 | succ n ih =>
  intro N j acc hj hj2 hN hacc;obtain ⟨N,rfl⟩:∃N',N=N'+1:=⟨N-1,by omega⟩;show Bn F t x m k k4 (spw t x m 0 k,isw t x m 0 k) (Ch F t x m k k4 (spw t x m 0 k,isw t x m 0 k) N) acc j=_;unfold Bn;rw [Ap (by simp [h0,ht];omega),Hk,A0u F h1 hs (by omega) hm,sb,Sv];unfold Hu;have hck:∀(l:List zD),(ck (j+1)).bind (fun x1022=>Ch F t x m k k4 (spw t x m 0 k,isw t x m 0 k) N l x1022)=Ch F t x m k k4 (spw t x m 0 k,isw t x m 0 k) N l (j+1):=fun l=>ckb (by omega);simp only [hck,Ph]
  cases hw:isw t x m 1 j with
  | true =>
   cases hc:Mb (comm (spw t x m 0 k) (spw t x m 1 j)) with
   | true =>
    refine Eq.trans (Ap hc) ?_;rw [Jy (by simp;omega),ih N (j+1) _ (by omega) (by omega) (by omega) (by simp;omega)];simp [kr,rg2,hw,hc]
   | false =>
    refine Eq.trans (An hc) ?_;rw [ih N (j+1) _ (by omega) (by omega) (by omega) (by omega)];simp [kr,rg2,hw,hc]
  | false =>
   refine Eq.trans (An rfl) ?_;rw [ih N (j+1) _ (by omega) (by omega) (by omega) (by omega)];simp [kr,rg2,hw]
def rgK (t:zH) (x:zE) (m k:Int):List zD :=
 if t.Kind=1 then (rg1 t x m k).toList else if isw t x m 0 k=true then (kr 129 (-64)).filterMap (rg2 t x m k) else []
theorem B2e (k:Int):(rgK t x m k).length≤129:=by
 unfold rgK
 split
 ·cases rg1 t x m k<;>simp
 ·split
  ·have:=List.length_filterMap_le (rg2 t x m k) (kr 129 (-64));rw [A99] at this;exact this
  ·simp
theorem A4k (F:Nat) (hF:2000≤F) (h:Fi t=0) (hs:∀w,inB (J4 x w) (-131072) 131072=true) (hm:1≤m∧m≤200000) (k4:List zD→Int→Option (List zD×Int)) (k:Int) (acc:List zD) (hacc:acc.length≤100000) :
  G0 F t x m k k4 (spw t x m 0 k,isw t x m 0 k) acc=Dl k k4 (acc++if t.Kind=1 then [] else rgK t x m k):=by
 unfold G0
 by_cases hk:t.Kind=1
 ·obtain ⟨N,rfl⟩:∃N',F=N'+1:=⟨F-1,by omega⟩;show Bn _ t x m k k4 _ _ acc _=_;unfold Bn;rw [An (by unfold B9;simp [hk,cond_eq_ite])];simp [hk]
 ·cases h0:isw t x m 0 k with
  | false =>
   obtain ⟨N,rfl⟩:∃N',F=N'+1:=⟨F-1,by omega⟩;show Bn _ t x m k k4 _ _ acc _=_;unfold Bn;rw [An rfl];simp [hk,rgK,h0]
  | true =>
   have:=A7o F ⟨h,.inr ⟨rfl,hk⟩⟩ hs hm k k4 k h0 129 F (-64) acc (by omega) (by omega) (by omega) (by omega);rw [h0] at this;refine Eq.trans this ?_;simp [hk,rgK,h0]
theorem B0g (F:Nat) (hF:2000≤F) (h:Fi t=0) (hs:∀w,inB (J4 x w) (-131072) 131072=true) (hm:1≤m∧m≤200000):∀(n N:Nat) (k:Int) (acc:List zD),k+n=65→-64≤k→n<N→acc.length+n*200≤100000 →
  Bw F t x m N acc k=some (acc++(kr n k).flatMap (rgK t x m),0):=by
 intro n
 induction n with
 | zero =>
  intro N k acc hk hk2 hN hacc;obtain ⟨N,rfl⟩:∃N',N=N'+1:=⟨N-1,by omega⟩;show Ef F t x m (Bw F t x m N) acc k=_;unfold Ef;rw [An (by simp;omega)];simp [kr,Kg]
 | succ n ih =>
  intro N k acc hk hk2 hN hacc;obtain ⟨N,rfl⟩:∃N',N=N'+1:=⟨N-1,by omega⟩;show Ef F t x m (Bw F t x m N) acc k=_;unfold Ef;have hlen:=B2e (t:=t) (x:=x) (m:=m) k;rw [Ap (by simp;omega),Hk,A0u F ⟨h,.inl rfl⟩ hs (by omega) hm,sb]
  by_cases h1:t.Kind=1
  ·have ht:B9 t=1:=by unfold B9;simp [h1]
   cases h0:isw t x m 0 k with
   | true =>
    refine Eq.trans (Ap (by rw [ht];rfl)) ?_;rw [Jy (by simp;omega)];have h6:=A4k F hF h hs hm (Bw F t x m N) k (acc++[⟨(k,0),spw t x m 0 k⟩]) (by simp;omega);rw [h0] at h6;refine Eq.trans h6 ?_;unfold Dl;rw [ckb (by omega),ih N (k+1) _ (by omega) (by omega) (by omega) (by simp [h1];omega)];simp [kr,rgK,rg1,h1,h0]
   | false =>
    refine Eq.trans (An rfl) ?_;have h6:=A4k F hF h hs hm (Bw F t x m N) k acc (by omega);rw [h0] at h6;refine Eq.trans h6 ?_;unfold Dl;rw [ckb (by omega),ih N (k+1) _ (by omega) (by omega) (by omega) (by simp [h1];omega)];simp [kr,rgK,rg1,h1,h0]
  ·have ht:B9 t=2:=by unfold B9;simp [h1,cond_eq_ite]
   refine Eq.trans (An (by rw [ht];cases isw t x m 0 k<;>rfl)) ?_
   rw [A4k F hF h hs hm (Bw F t x m N) k acc (by omega),if_neg h1];unfold Dl;rw [ckb (by omega),ih N (k+1) _ (by omega) (by omega) (by omega) (by simp;omega)];simp [kr]
end
def conv (g:zC):zD:=⟨g.Whole,g.Speed⟩
theorem A3n {α β γ:Type} (f:α→Option β) (g:β→List γ):∀(l:List α),(l.filterMap f).flatMap g=l.flatMap (fun a=>match f a with|some b=>g b|none=>[]):=by
 intro l
 induction l with
 | nil=>rfl
 | cons a l ih=>cases h:f a<;>simp [h,ih]
theorem A1r {α β:Type} (f:α→Option β):∀(l:List α),l.flatMap (fun a=>(f a).toList)=l.filterMap f:=by
 intro l
 induction l with
 | nil=>rfl
 | cons a l ih=>cases h:f a<;>simp [h,ih]
section
variable {t:zH} {x:zE} {m:Int}
theorem A2o (h:t.Kind=1):((Kf t x m 0).map (fun f=>(⟨(f.whole,0),f.speed⟩:zC))).map conv=(kr 129 (-64)).flatMap (rgK t x m):=by
 have e:(rgK t x m)=fun k=>(rg1 t x m k).toList:=by funext k;simp [rgK,h]
 rw [e,A1r];unfold Kf;rw [List.map_map,List.map_filterMap]
 congr 1
 funext k
 unfold og rg1
 split<;>rfl
theorem A2p (h:t.Kind≠1):((Kf t x m 0).flatMap (fun u=>(Kf t x m 1).filterMap (gg u))).map conv=(kr 129 (-64)).flatMap (rgK t x m):=by
 rw [List.map_flatMap];unfold Kf;rw [A3n]
 congr 1
 funext k
 unfold og rgK;rw [if_neg h]
 cases h0:isw t x m 0 k with
 | false=>rfl
 | true =>
  simp only [if_true];rw [List.map_filterMap,List.filterMap_filterMap]
  congr 1
  funext j
  unfold rg2
  cases h1:isw t x m 1 j with
  | false=>rfl
  | true =>
   simp only [if_true,true_and,Option.bind_some];unfold gg;simp only
   split<;>rfl
theorem A28:(((Kf t x m 0).flatMap (fun u=>(Kf t x m 1).filterMap (gg u)))).length≤129*129:=by
 have h1:=Nh (t:=t) (x:=x) (m:=m) (w:=0);have h2:=Nh (t:=t) (x:=x) (m:=m) (w:=1);generalize Kf t x m 0=L0 at *;generalize Kf t x m 1=L1 at *;have:(L0.flatMap (fun u=>L1.filterMap (gg u))).length≤L0.length*129:=by
  clear h1
  induction L0 with
  | nil=>simp
  | cons a l ih =>
   have:=List.length_filterMap_le (gg a) L1;simp [Nat.add_mul] at ih ⊢;omega
 omega
def Nw (t:zH) (x:zE) (m w:Int):Prop:=isw t x m w (-64)=true∨isw t x m w 64=true
instance (w:Int):Decidable (Nw t x m w):=by unfold Nw;infer_instance
theorem B3h (F n:Nat) (k:Int):Ci F t x m (n+1) k=Dk F t x m (Ci F t x m n) k:=rfl
theorem A50 (F:Nat) (k9:Int→Option (List zD×Int)) {w:Int} (h:hasT t w) (hs:∀w,inB (J4 x w) (-131072) 131072=true) (hm:1≤m∧m≤200000) :
  Dk F t x m k9 w=if Nw t x m w then some ([],9) else k9 (w+1):=by
 have hw:0≤w∧w≤1:=by rcases h.2 with h|⟨h,_⟩<;>omega
 have ht:decide (w<B9 t)=true:=by
  unfold B9;rcases h.2 with h|⟨h,h2⟩
  ·subst h;cases t.Kind==1<;>rfl
  ·subst h;simp [h2,cond_eq_ite]
 have hck:∀{β:Type} (f:Int→Option β),(ck (w+1)).bind f=f (w+1):=fun f=>ckb (by omega);unfold Dk;rw [Ap ht,Hk,A0u _ h hs (by omega) hm,sb,A0u _ h hs (by omega) hm,sb,hck]
 by_cases hb:Nw t x m w
 ·rw [if_pos hb];refine Ap ?_;rcases hb with h|h<;>simp [h]
 ·rw [if_neg hb];refine An ?_;unfold Nw at hb;simp only [not_or,Bool.not_eq_true] at hb;simp [hb]
theorem A8e (F:Nat) (k9:Int→Option (List zD×Int)) {w:Int} (hw:B9 t≤w):Dk F t x m k9 w=Fz F t x m:=by
 unfold Dk;rw [An (by simp;omega)]
theorem B6c (F:Nat) (hF:2000≤F) (h:Fi t=0) (hs:∀w,inB (J4 x w) (-131072) 131072=true) (hm:1≤m∧m≤200000):Fz F t x m=some ((kr 129 (-64)).flatMap (rgK t x m),0):=by
 unfold Fz;rw [B0g F hF h hs hm 129 F (-64) [] (by omega) (by omega) (by omega) (by simp),List.nil_append]
theorem A7q (F:Nat) (hF:2000≤F) (h:Fi t=0) (hs:∀w,inB (J4 x w) (-131072) 131072=true) (hm:1≤m∧m≤200000) :
  Ci F t x m F 0=some (if Nw t x m 0∨(t.Kind≠1∧Nw t x m 1) then ([],9) else ((kr 129 (-64)).flatMap (rgK t x m),0)):=by
 have hK:=B6c F hF h hs hm;obtain ⟨N,hN⟩:∃N',F=N'+3:=⟨F-3,by omega⟩;have e:Ci F t x m F 0=Ci F t x m (N+3) 0:=by rw [←hN]
 rw [e,B3h,A50 F _ ⟨h,.inl rfl⟩ hs hm]
 by_cases h0:Nw t x m 0
 ·rw [if_pos h0,if_pos (Or.inl h0)]
 ·rw [if_neg h0,B3h]
  by_cases h1:t.Kind=1
  ·have ht:B9 t=1:=by unfold B9;simp [h1]
   rw [A8e F _ (by omega),hK,if_neg (by simp [h0,h1])]
  ·have ht:B9 t=2:=by unfold B9;simp [h1,cond_eq_ite]
   have hT:hasT t (0+1):=⟨h,.inr ⟨by omega,h1⟩⟩;rw [A50 F _ hT hs hm]
   by_cases h2:Nw t x m 1
   ·rw [if_pos (show Nw t x m (0+1) from h2),if_pos (Or.inr ⟨h1,h2⟩)]
   ·rw [if_neg (show ¬Nw t x m (0+1) from h2),B3h,A8e F _ (by omega),hK,if_neg (by simp [h0,h2])]
theorem A4f (F:Nat) (hF:2000≤F) (h:Fi t=0) (hs:∀w,inB (J4 x w) (-131072) 131072=true) (hm:1≤m∧m≤200000) :
  ∃l b,Fp F (pt t) x m=some (l,b)∧b=decide (¬(Nw t x m 0∨(t.Kind≠1∧Nw t x m 1)))∧(b=true→l.map conv=(kr 129 (-64)).flatMap (rgK t x m)∧l.length≤129*129):=by
 have ho:=Nh (t:=t) (x:=x) (m:=m) (w:=0);have ho1:=Nh (t:=t) (x:=x) (m:=m) (w:=1);unfold Fp;rw [Hk,Wj F (by omega) ⟨h,.inl rfl⟩ hs hm,sb]
 by_cases h0:Nw t x m 0
 ·rw [if_pos (show isw t x m 0 (-64)=true∨isw t x m 0 64=true from h0)];exact ⟨_,_,rfl,by simp [h0],by simp⟩
 ·rw [if_neg (show ¬(isw t x m 0 (-64)=true∨isw t x m 0 64=true) from h0)];have e1:∀{β:Type} (a b:β),(bif !(true:Bool) then a else b)=b:=fun _ _=>rfl;simp only [e1]
  by_cases h1:t.Kind=1
  ·rw [Ap (by simpa [pt] using h1)];have:=A25 (Kf t x m 0,true) (by simp;omega) (Kf t x m 0).length F 0 [] (by simp) (by omega) (by simp;omega);refine ⟨_,_,this,by simp [h0,h1],fun _=>⟨?_,?_⟩⟩
   ·simp only [List.nil_append,List.drop_zero];exact A2o h1
   ·simp;omega
  ·rw [An (by simpa [pt] using h1)];unfold Ja;rw [Hk,Wj F (by omega) ⟨h,.inr ⟨rfl,h1⟩⟩ hs hm,sb]
   by_cases h2:Nw t x m 1
   ·rw [if_pos (show isw t x m 1 (-64)=true∨isw t x m 1 64=true from h2)];have:=Yh F hF (Kf t x m 0,true) ([],false) (by simp;omega) (by simp) (Kf t x m 0).length F 0 [] (by simp) (by omega) (by simp;omega);refine ⟨_,_,this,by simp [h1,h2],by simp⟩
   ·rw [if_neg (show ¬(isw t x m 1 (-64)=true∨isw t x m 1 64=true) from h2)];have:=Yh F hF (Kf t x m 0,true) (Kf t x m 1,true) (by simp;omega) (by simp;omega) (Kf t x m 0).length F 0 [] (by simp) (by omega) (by simp;omega);refine ⟨_,_,this,by simp [h0,h2],fun _=>⟨?_,?_⟩⟩
    ·simp only [List.nil_append,List.drop_zero];exact A2p h1
    ·simp only [List.nil_append,List.drop_zero];exact A28
end
theorem A9b (a:List zC) (ha:a.length≤100000):∀(n N i:Nat),i+n=a.length→n<N→Ec a (a.map conv) N (i:Int)=some true:=by
 intro n
 induction n with
 | zero =>
  intro N i hi hN;obtain ⟨N,rfl⟩:∃N',N=N'+1:=⟨N-1,by omega⟩;show Eb a (a.map conv) (Ec a (a.map conv) N) (i:Int)=_;unfold Eb;rw [An (by simp;omega)];rfl
 | succ n ih =>
  intro N i hi hN;obtain ⟨N,rfl⟩:∃N',N=N'+1:=⟨N-1,by omega⟩;show Eb a (a.map conv) (Ec a (a.map conv) N) (i:Int)=_;unfold Eb;have hg:(a.map conv).getD i default=conv (a.getD i default):=by
   rw [List.getD_eq_getElem?_getD,List.getD_eq_getElem?_getD,List.getElem?_map,List.getElem?_eq_getElem (by omega:i<a.length)];rfl
  rw [Ap (by simp;omega),Bm default (by omega),Bm default (by simp;omega),Int.toNat_natCast,hg];obtain ⟨u,hu⟩:∃u,a.getD i default=u:=⟨_,rfl⟩;rw [hu];have e:(((u.Whole.1:Int)==(conv u).Whole.1)&&(((u.Whole.2:Int)==(conv u).Whole.2)&&true))=true:=by simp [conv]
  rw [e,gdT (g:=(!true)==false&&true) rfl,Bm default (by omega),gdT (g:=(!true)==false&&true) rfl,Bm default (by simp;omega),Int.toNat_natCast,hg,hu];have e2:(bif !(true:Bool) then true else !(((u.Speed.Lo:Int)==(conv u).Speed.Lo)&&(((u.Speed.Hi:Int)==(conv u).Speed.Hi)&&true)))=false:=by simp [conv]
  rw [An e2,ckb (by omega)];have:=ih N (i+1) (by omega) (by omega);rw [Int.natCast_add] at this;exact this
theorem B4d (F:Nat) (a:List zC) (ha:a.length≤129*129) (hF:129*129<F):L5 F a (a.map conv)=some true:=by
 unfold L5;rw [An (by simp)];exact A9b a (by omega) a.length F 0 (by omega) (by omega)
theorem A7v (F:Nat) (l:List zA) (hb:∀s∈l,spB s) (hl:l.length<4611686018427387904):∃l',Gi F l=some l'∧l'.Perm l∧l'.Pairwise (fun x y=>x.Lo≤y.Lo):=by
 unfold Gi;rw [dif_pos ⟨hb,hl⟩];have hlt:∀x y:{s:zA // spB s},Go.Proofs.ltOf Ml x y=decide (x.val.Lo<y.val.Lo):=by
  intro x y;unfold Go.Proofs.ltOf Ml
  congr 1
  simp only [eq_iff_iff];omega
 have hO:Go.Sort.SWO (Go.Proofs.ltOf Ml):=by
  constructor
  ·intro x;rw [hlt];simp
  ·intro x y z h1 h2;rw [hlt] at *;simp at *;omega
  ·intro x y z h1 h2;rw [hlt] at *;simp at *;omega
 obtain ⟨_,h2,h3⟩:=Vv Ml hO (l.pmap Subtype.mk hb);refine ⟨_,rfl,?_,?_⟩
 ·have:=h2.map Subtype.val;refine this.trans ?_;rw [List.map_pmap];simp
 ·rw [List.pairwise_map];refine h3.imp ?_;intro x y h;rw [hlt] at h
  simpa using h
def mg:zA→List zA→List zA
 | c,[]=>[c]
 | c,x::xs=>if x.Lo≤c.Hi then mg ⟨c.Lo,if x.Hi>c.Hi then x.Hi else c.Hi⟩ xs else c::mg x xs
def Mr:List zA→List zA
 | []=>[]
 | x::xs=>mg x xs
def closed (l:List zA) (H:Int):Prop:=∀x∈l,x.Lo≤H→x.Hi≤H
theorem B1v:∀(xs:List zA) (c:zA),xs.Pairwise (fun x y=>x.Lo≤y.Lo)→∃H,mg c xs=⟨c.Lo,H⟩::Mr (xs.filter (fun x=>decide (x.Lo>H)))∧c.Hi≤H∧closed xs H∧∀K,c.Hi≤K→closed xs K→H≤K:=by
 intro xs
 induction xs with
 | nil=>intro c _;exact ⟨c.Hi,rfl,Int.le_refl _,(fun x hx=>by cases hx),fun K h _=>h⟩
 | cons x xs ih =>
  intro c hs;rw [List.pairwise_cons] at hs
  by_cases h:x.Lo≤c.Hi
  ·obtain ⟨H,h1,h2,h3,h4⟩:=ih ⟨c.Lo,if x.Hi>c.Hi then x.Hi else c.Hi⟩ hs.2;have hc:c.Hi≤H∧x.Hi≤H:=by simp only at h2;split at h2<;>omega
   refine ⟨H,?_,hc.1,?_,?_⟩
   ·unfold mg;rw [if_pos h,h1,List.filter_cons_of_neg (by simp;omega)]
   ·intro y hy hyl;rcases List.mem_cons.1 hy with rfl|hy
    ·exact hc.2
    ·exact h3 y hy hyl
   ·intro K hK hcl;have:=hcl x (by simp) (by omega);exact h4 K (by simp only;split<;>omega) (fun y hy=>hcl y (by simp [hy]))
  ·refine ⟨c.Hi,?_,Int.le_refl _,?_,fun K h _=>h⟩
   ·have hall:(x::xs).filter (fun x=>decide (x.Lo>c.Hi))=x::xs:=by
     rw [List.filter_eq_self];intro y hy;rcases List.mem_cons.1 hy with rfl|hy
     ·simp;omega
     ·have:=hs.1 y hy;simp;omega
    rw [hall];unfold mg;rw [if_neg h];rfl
   ·intro y hy hyl;rcases List.mem_cons.1 hy with rfl|hy
    ·omega
    ·have:=hs.1 y hy;omega
theorem A34 (y:List zA):∀(n N i:Nat) (pre:List zA) (c:zA),i+n=y.length→n<N→pre.length+n≤8000000000000→y.length≤8000000000000 →
  Az y N (i:Int) (pre++[c])=some (pre++mg c (y.drop i)):=by
 intro n
 induction n with
 | zero =>
  intro N i pre c hi hN hp hi2;obtain ⟨N,rfl⟩:∃N',N=N'+1:=⟨N-1,by omega⟩;show Bc y (Az y N) (i:Int) (pre++[c])=_;unfold Bc;rw [An (by simp;omega),List.drop_eq_nil_of_le (by omega)];rfl
 | succ n ih =>
  intro N i pre c hi hN hp hi2;obtain ⟨N,rfl⟩:∃N',N=N'+1:=⟨N-1,by omega⟩;show Bc y (Az y N) (i:Int) (pre++[c])=_;unfold Bc;rw [Bk (i:=i) (by omega) default];rw [Ap (by simp;omega),Bm default (by omega),Int.toNat_natCast];generalize y.getD i default=x;have hlen:(pre++[c]).length=pre.length+1:=by simp
  have hpos:decide ((((pre++[c]).length:Nat):Int)>0)=true:=by rw [hlen];simp
  have hidx:((((pre++[c]).length:Nat):Int)-1)=(pre.length:Nat):=by rw [hlen];omega
  have hget:(pre++[c]).getD pre.length default=c:=by simp [List.getD_eq_getElem?_getD]
  simp only [hpos];rw [gdT (g:=true==true&&true) rfl,ckb (by rw [hlen];omega),gdT (g:=true==true&&true) rfl,hidx,Bm default (by rw [hlen];omega),Int.toNat_natCast,hget];unfold D4;have hck:∀(l:List zA),(ck ((i:Int)+1)).bind (fun x179=>Az y N x179 l)=Az y N (((i+1:Nat):Int)) l:=fun l=>by rw [ckb (by omega),Int.natCast_add];rfl
  by_cases h:x.Lo≤c.Hi
  ·refine Eq.trans (Ap (by simpa using h)) ?_;rw [ckb (by omega),ckb (by omega),Bm default (by rw [hlen];omega),Bm default (by rw [hlen];omega),Int.toNat_natCast,hget];unfold Gk;rw [if_pos (by rw [hlen];omega),sb,Int.toNat_natCast,hck];have hset:(pre++[c]).set pre.length ⟨c.Lo,if x.Hi>c.Hi then x.Hi else c.Hi⟩=pre++[⟨c.Lo,if x.Hi>c.Hi then x.Hi else c.Hi⟩]:=by simp
   rw [hset,ih N (i+1) _ _ (by omega) (by omega) (by omega) (by omega)]
   conv=>rhs;unfold mg
   rw [if_pos h]
  ·refine Eq.trans (An (by simpa using h)) ?_;rw [Jy (by rw [hlen];simp;omega),hck,ih N (i+1) (pre++[c]) x (by omega) (by omega) (by rw [hlen];omega) (by omega)]
   conv=>rhs;unfold mg
   rw [if_neg h];simp
theorem Yy (F:Nat) (y:List zA) (hy:y.length<F) (hl:y.length≤1000000000000):Az y F 0 []=some (Mr y):=by
 obtain ⟨N,rfl⟩:∃N',F=N'+1:=⟨F-1,by omega⟩;show Bc y (Az y N) 0 []=_;unfold Bc
 cases y with
 | nil=>rfl
 | cons x xs =>
  have hpos:decide (((([]:List zA).length:Nat):Int)>0)=false:=rfl;rw [Ap (by simp),Bm default (by simp)];simp only [hpos];rw [gdF (g:=false==true&&true) rfl,sb,gdF (g:=false==true&&true) rfl,sb];refine Eq.trans (An rfl) ?_;rw [Jy (by simp)];unfold D4;rw [ckb (by omega)];have:=A34 (x::xs) xs.length N 1 [] x (by simp;omega) (by simp at hy;omega) (by simp at hl ⊢;omega) (by omega);exact this
theorem A82 (F:Nat) (l:List zA) (hF:l.length<F) (hl:l.length≤1000000000000) (hb:∀s∈l,spB s):∃l',C6 F l=some (Mr l')∧l'.Perm l∧l'.Pairwise (fun x y=>x.Lo≤y.Lo):=by
 obtain ⟨l',h1,h2,h3⟩:=A7v F l hb (by omega);refine ⟨l',?_,h2,h3⟩;unfold C6 Be;have hlen:=h2.length_eq;rw [Jy (by simp;omega),sb,List.nil_append,h1,sb,Yy F l' (by omega) (by omega)]
section
variable {out left:List zA} {k2:List zA→List zA→Option (List zA)}
theorem A1q (hl:left.length≤1000000000000) (ho:out.length≤1000000000000) (m H:Int):∀(n N i:Nat) (acc:List zA),i+n=left.length→n<N→acc.length+n≤8000000000000 →
  Df out left k2 m H N (i:Int) acc=k2 (out++[⟨m,H⟩]) (acc++(left.drop i).filter (fun x=>decide (x.Lo>H))):=by
 intro n
 induction n with
 | zero =>
  intro N i acc hi hN ha;obtain ⟨N,rfl⟩:∃N',N=N'+1:=⟨N-1,by omega⟩;show Fg out left k2 m H (Df out left k2 m H N) (i:Int) acc=_;unfold Fg;rw [An (by simp;omega),List.drop_eq_nil_of_le (by omega)];unfold Lh;rw [Jy (by simp;omega)];simp
 | succ n ih =>
  intro N i acc hi hN ha;obtain ⟨N,rfl⟩:∃N',N=N'+1:=⟨N-1,by omega⟩;show Fg out left k2 m H (Df out left k2 m H N) (i:Int) acc=_;unfold Fg;rw [Bk (i:=i) (by omega) default];rw [Ap (by simp;omega),Bm default (by omega),Bm default (by omega),Int.toNat_natCast];generalize left.getD i default=x;unfold Jl;have hck:∀(l:List zA),(ck ((i:Int)+1)).bind (fun x2455=>Df out left k2 m H N x2455 l)=Df out left k2 m H N (((i+1:Nat):Int)) l:=fun l=>by rw [ckb (by omega),Int.natCast_add];rfl
  by_cases h:x.Lo>H
  ·rw [Ap (by simpa using h),Jy (by simp;omega),hck,ih N (i+1) _ (by omega) (by omega) (by simp;omega),List.filter_cons_of_pos (by simpa using h)];simp
  ·rw [An (by simpa using h),hck,ih N (i+1) _ (by omega) (by omega) (by omega),List.filter_cons_of_neg (by simpa using h)]
def pass:Int→Bool→List zA→Int×Bool
 | H,c,[]=>(H,c)
 | H,c,x::xs=>if x.Lo≤H∧x.Hi>H then pass x.Hi true xs else pass H c xs
theorem A7l:∀(xs:List zA) (H:Int),(pass H true xs).2=true:=by
 intro xs
 induction xs with
 | nil=>intro H;rfl
 | cons x xs ih=>intro H;unfold pass;split<;>exact ih _
theorem B27:∀(xs:List zA) (H:Int) (c:Bool),H≤(pass H c xs).1:=by
 intro xs
 induction xs with
 | nil=>intro H c;exact Int.le_refl _
 | cons x xs ih =>
  intro H c;unfold pass
  split
  ·have:=ih x.Hi true;omega
  ·exact ih H c
theorem B0c:∀(xs:List zA) (H:Int) (c:Bool) (K:Int),H≤K→closed xs K→(pass H c xs).1≤K:=by
 intro xs
 induction xs with
 | nil=>intro H c K h _;exact h
 | cons x xs ih =>
  intro H c K h hc;unfold pass
  split
  ·rename_i hx
   exact ih _ _ K (hc x (by simp) (by omega)) (fun y hy=>hc y (by simp [hy]))
  ·exact ih _ _ K h (fun y hy=>hc y (by simp [hy]))
theorem Y1:∀(xs:List zA) (H:Int),(pass H false xs).2=false→(pass H false xs).1=H∧closed xs H:=by
 intro xs
 induction xs with
 | nil=>intro H _;exact ⟨rfl,fun x hx=>by cases hx⟩
 | cons x xs ih =>
  intro H h;unfold pass at h ⊢
  split
  ·rename_i hx
   rw [if_pos hx,A7l] at h
   cases h
  ·rename_i hx
   rw [if_neg hx] at h;obtain ⟨h1,h2⟩:=ih H h;refine ⟨h1,?_⟩;intro y hy hyl;rcases List.mem_cons.1 hy with rfl|hy
   ·omega
   ·exact h2 y hy hyl
theorem Zn:∀(xs:List zA) (H:Int) (c:Bool),(pass H c xs).1=H∨(H<(pass H c xs).1∧∃x∈xs,x.Hi=(pass H c xs).1):=by
 intro xs
 induction xs with
 | nil=>intro H c;exact .inl rfl
 | cons x xs ih =>
  intro H c;unfold pass
  split
  ·rename_i hx
   rcases ih x.Hi true with h|⟨h,y,hy,hyh⟩
   ·rw [h];exact .inr ⟨by omega,x,by simp,rfl⟩
   ·exact .inr ⟨by omega,y,by simp [hy],hyh⟩
  ·rcases ih H c with h|⟨h,y,hy,hyh⟩
   ·exact .inl h
   ·exact .inr ⟨h,y,by simp [hy],hyh⟩
theorem Zp:∀(xs:List zA) (H:Int),(pass H false xs).1=H→(pass H false xs).2=false:=by
 intro xs
 induction xs with
 | nil=>intro H _;rfl
 | cons x xs ih =>
  intro H h;unfold pass at h ⊢
  split
  ·rename_i hx
   rw [if_pos hx] at h;have:=B27 xs x.Hi true;omega
  ·rename_i hx
   rw [if_neg hx] at h;exact ih H h
theorem Zv (hl:left.length≤1000000000000) (k8:Int→Bool→Option (List zA)):∀(n N i:Nat) (H:Int) (c:Bool),i+n=left.length→n<N →
  Dg left k8 N H c (i:Int)=k8 (pass H c (left.drop i)).1 (pass H c (left.drop i)).2:=by
 intro n
 induction n with
 | zero =>
  intro N i H c hi hN;obtain ⟨N,rfl⟩:∃N',N=N'+1:=⟨N-1,by omega⟩;show Fh left k8 (Dg left k8 N) H c (i:Int)=_;unfold Fh;rw [An (by simp;omega),List.drop_eq_nil_of_le (by omega)];rfl
 | succ n ih =>
  intro N i H c hi hN;obtain ⟨N,rfl⟩:∃N',N=N'+1:=⟨N-1,by omega⟩;show Fh left k8 (Dg left k8 N) H c (i:Int)=_;unfold Fh;rw [Bk (i:=i) (by omega) default];rw [Ap (by simp;omega),Bm default (by omega),Int.toNat_natCast];have hgb:∀{β:Type} (f:zA→Option β),(Ak left (i:Int)).bind f=f (left.getD i default):=fun f=>by rw [Bm default (by omega),Int.toNat_natCast]
  obtain ⟨x,hx⟩:∃x,left.getD i default=x:=⟨_,rfl⟩;rw [hx] at hgb ⊢;unfold J3;have hck:∀(H:Int) (c:Bool),(ck ((i:Int)+1)).bind (fun x2575=>Dg left k8 N H c x2575)=Dg left k8 N H c (((i+1:Nat):Int)):=fun H c=>by rw [ckb (by omega),Int.natCast_add];rfl
  by_cases h1:x.Lo≤H
  ·have e1:decide (x.Lo≤H)=true:=by simpa using h1
   rw [e1,gdT (g:=true==true&&true) rfl,hgb]
   by_cases h2:x.Hi>H
   ·rw [Ap (by simpa using h2),hgb,hck,ih N (i+1) _ _ (by omega) (by omega)]
    conv=>rhs;unfold pass
    rw [if_pos ⟨h1,h2⟩]
   ·rw [An (by simpa using h2),hck,ih N (i+1) _ _ (by omega) (by omega)]
    conv=>rhs;unfold pass
    rw [if_neg (by omega)]
  ·have e1:decide (x.Lo≤H)=false:=by simpa using h1
   rw [e1,gdF (g:=false==true&&true) rfl,sb];refine Eq.trans (An rfl) ?_;rw [hck,ih N (i+1) _ _ (by omega) (by omega)]
   conv=>rhs;unfold pass
   rw [if_neg (by omega)]
theorem A6q (F:Nat) (hF:left.length<F) (hl:left.length≤1000000000000) (m:Int):∀(q N:Nat) (H:Int),(left.filter (fun x=>decide (x.Hi>H))).length≤q→q+2≤N →
  ∃H',Cg F out left k2 m N H true=Jk F out left k2 m H'∧H≤H'∧closed left H'∧∀K,H≤K→closed left K→H'≤K:=by
 intro q
 induction q with
 | zero =>
  intro N H hq hN;obtain ⟨N,rfl⟩:∃N',N=N'+2:=⟨N-2,by omega⟩;have hs:=Zv (left:=left) hl (Cg F out left k2 m (N+1)) left.length F 0 H false (by omega) hF;rw [List.drop_zero] at hs;have hno:(pass H false left).1=H:=by
   rcases Zn left H false with h|⟨h,x,hx,hxh⟩
   ·exact h
   ·have:x∈left.filter (fun x=>decide (x.Hi>H)):=List.mem_filter.2 ⟨hx,by simp;omega⟩;have:=List.length_pos_of_mem this;omega
  have h2:=Zp left H hno;rw [hno,h2] at hs;refine ⟨H,?_,Int.le_refl _,(Y1 left H h2).2,fun K h _=>h⟩;show De F out left k2 m (Cg F out left k2 m (N+1)) H true=_;unfold De;refine Eq.trans (Ap rfl) (Eq.trans hs ?_);rfl
 | succ q ih =>
  intro N H hq hN;obtain ⟨N,rfl⟩:∃N',N=N'+2:=⟨N-2,by omega⟩;have hs:=Zv (left:=left) hl (Cg F out left k2 m (N+1)) left.length F 0 H false (by omega) hF;rw [List.drop_zero] at hs
  cases h2:(pass H false left).2 with
  | false =>
   obtain ⟨h3,h4⟩:=Y1 left H h2;rw [h3,h2] at hs;refine ⟨H,?_,Int.le_refl _,h4,fun K h _=>h⟩;show De F out left k2 m (Cg F out left k2 m (N+1)) H true=_;unfold De;refine Eq.trans (Ap rfl) (Eq.trans hs ?_);rfl
  | true =>
   rw [h2] at hs;have hne:(pass H false left).1≠H:=fun h=>by rw [Zp left H h] at h2;cases h2
   rcases Zn left H false with h|⟨h,x,hx,hxh⟩
   ·exact absurd h hne
   have hlt:(left.filter (fun x=>decide (x.Hi>(pass H false left).1))).length<(left.filter (fun x=>decide (x.Hi>H))).length:=by
    have e:left.filter (fun x=>decide (x.Hi>(pass H false left).1))=(left.filter (fun x=>decide (x.Hi>H))).filter (fun x=>decide (x.Hi>(pass H false left).1)):=by
     rw [List.filter_filter];apply List.filter_congr;intro y _;simp;omega
    rw [e];apply List.length_filter_lt_length_iff_exists.2;exact ⟨x,List.mem_filter.2 ⟨hx,by simp;omega⟩,by simp;omega⟩
   obtain ⟨H',e1,e2,e3,e4⟩:=ih (N+1) (pass H false left).1 (by omega) (by omega);refine ⟨H',?_,by omega,e3,fun K hK hc=>e4 K (B0c left H false K hK hc) hc⟩;show De F out left k2 m (Cg F out left k2 m (N+1)) H true=_;unfold De;exact Eq.trans (Ap rfl) (Eq.trans hs e1)
theorem A9l (F:Nat) (hl:left.length≤1000000000000):∀(n N i:Nat) (m h:Int),i+n=left.length→n<N →
  ∃m' h',C0 F out left k2 N m h (i:Int)=Jj F out left k2 m' h'∧m'≤m∧(∀x∈left.drop i,m'≤x.Lo)∧((m'=m∧h'=h)∨∃x∈left.drop i,x.Lo=m'∧x.Hi=h'):=by
 intro n
 induction n with
 | zero =>
  intro N i m h hi hN;obtain ⟨N,rfl⟩:∃N',N=N'+1:=⟨N-1,by omega⟩;refine ⟨m,h,?_,Int.le_refl _,?_,.inl ⟨rfl,rfl⟩⟩
  ·show Ck F out left k2 (C0 F out left k2 N) m h (i:Int)=_;unfold Ck;rw [An (by simp;omega)]
  ·rw [List.drop_eq_nil_of_le (by omega)];intro x hx;cases hx
 | succ n ih =>
  intro N i m h hi hN;obtain ⟨N,rfl⟩:∃N',N=N'+1:=⟨N-1,by omega⟩;have hgb:∀{β:Type} (f:zA→Option β),(Ak left (i:Int)).bind f=f (left.getD i default):=fun f=>by rw [Bm default (by omega),Int.toNat_natCast]
  rw [Bk (i:=i) (by omega) default];obtain ⟨x,hx⟩:∃x,left.getD i default=x:=⟨_,rfl⟩;rw [hx] at hgb ⊢;have hck:∀(a b:Int),(ck ((i:Int)+1)).bind (fun x2608=>C0 F out left k2 N a b x2608)=C0 F out left k2 N a b (((i+1:Nat):Int)):=fun a b=>by rw [ckb (by omega),Int.natCast_add];rfl
  by_cases hlt:x.Lo<m
  ·obtain ⟨m',h',e1,e2,e3,e4⟩:=ih N (i+1) x.Lo x.Hi (by omega) (by omega);refine ⟨m',h',?_,by omega,?_,?_⟩
   ·show Ck F out left k2 (C0 F out left k2 N) m h (i:Int)=_;unfold Ck G3;rw [Ap (by simp;omega),hgb,Ap (by simpa using hlt),hgb,hck,e1]
   ·intro y hy;rcases List.mem_cons.1 hy with rfl|hy
    ·exact e2
    ·exact e3 y hy
   ·rcases e4 with ⟨rfl,rfl⟩|⟨y,hy,e⟩
    ·exact .inr ⟨x,by simp,rfl,rfl⟩
    ·exact .inr ⟨y,by simp [hy],e⟩
  ·obtain ⟨m',h',e1,e2,e3,e4⟩:=ih N (i+1) m h (by omega) (by omega);refine ⟨m',h',?_,by omega,?_,?_⟩
   ·show Ck F out left k2 (C0 F out left k2 N) m h (i:Int)=_;unfold Ck G3;rw [Ap (by simp;omega),hgb,An (by simpa using hlt),hck,e1]
   ·intro y hy;rcases List.mem_cons.1 hy with rfl|hy
    ·omega
    ·exact e3 y hy
   ·rcases e4 with h|⟨y,hy,e⟩
    ·exact .inl h
    ·exact .inr ⟨y,by simp [hy],e⟩
end
theorem A4d (F:Nat):∀(n N:Nat) (out left σ:List zA),left.length≤n→n<N→n+3≤F→n≤1000000000000→out.length+n≤1000000000000→σ.Perm left→σ.Pairwise (fun x y=>x.Lo≤y.Lo)→(∀x∈left,x.Lo≤x.Hi) →
  Cf F N out left=some (out++Mr σ):=by
 intro n
 induction n with
 | zero =>
  intro N out left σ hl hN hF hn ho hp hs hv;obtain ⟨N,rfl⟩:∃N',N=N'+1:=⟨N-1,by omega⟩;have:left=[]:=List.length_eq_zero_iff.1 (by omega);subst this;have:σ=[]:=List.Perm.eq_nil hp;subst this;show Ff F (Cf F N) out []=_;simp [Ff,Ji,Mr]
 | succ n ih =>
  intro N out left σ hl hN hF hn ho hp hs hv;obtain ⟨N,rfl⟩:∃N',N=N'+1:=⟨N-1,by omega⟩;show Ff F (Cf F N) out left=_;unfold Ff
  cases σ with
  | nil =>
   have:left=[]:=List.Perm.eq_nil hp.symm;subst this;simp [Ji,Mr]
  | cons x1 xs =>
   have hlen:=hp.length_eq;simp at hlen;rw [Ap (by simp;omega),Bm default (by omega)];have hm0:left.getD (0:Int).toNat default∈left:=by
    show left.getD 0 default∈left;rw [List.getD_eq_getElem?_getD,List.getElem?_eq_getElem (by omega:0<left.length)];exact List.getElem_mem _
   generalize left.getD (0:Int).toNat default=u at *;obtain ⟨m,h,e1,e2,e3,e4⟩:=A9l (out:=out) (left:=left) (k2:=Cf F N) F (by omega) left.length F 0 u.Lo u.Hi (by omega) (by omega);refine Eq.trans e1 ?_;rw [List.drop_zero] at e3 e4;obtain ⟨s,hsl,hs1,hs2⟩:∃s∈left,s.Lo=m∧s.Hi=h:=by
    rcases e4 with ⟨rfl,rfl⟩|⟨y,hy,e⟩
    ·exact ⟨u,hm0,rfl,rfl⟩
    ·exact ⟨y,hy,e⟩
   rw [List.pairwise_cons] at hs;have hx1:x1∈left:=hp.mem_iff.1 (by simp);have hmx:m=x1.Lo:=by
    have h1:=e3 x1 hx1;have h2:s∈x1::xs:=hp.mem_iff.2 hsl;rcases List.mem_cons.1 h2 with rfl|h2
    ·exact hs1.symm
    ·have:=hs.1 s h2;omega
   have hvs:=hv s hsl;have hvx:=hv x1 hx1;unfold Jj;obtain ⟨H,g1,g2,g3,g4⟩:=A6q (out:=out) (left:=left) (k2:=Cf F N) F (by omega) (by omega) m left.length F h (List.length_filter_le _ _) (by omega);rw [g1];unfold Jk;have hf:=A1q (out:=out) (left:=left) (k2:=Cf F N) (by omega) (by omega) m H left.length F 0 [] (by omega) (by omega) (by simp;omega);refine Eq.trans hf ?_;rw [List.drop_zero,List.nil_append];obtain ⟨H2,q1,q2,q3,q4⟩:=B1v xs x1 hs.2;have hc2:closed left H2:=by
    intro y hy hyl;rcases List.mem_cons.1 (hp.mem_iff.2 hy) with rfl|hy
    ·exact q2
    ·exact q3 y hy hyl
   have hHH:H=H2:=by
    apply Int.le_antisymm
    ·exact g4 H2 (by have:=hc2 s hsl (by omega);omega) hc2
    ·exact q4 H (g3 x1 hx1 (by omega)) (fun y hy=>g3 y (hp.mem_iff.1 (by simp [hy])))
   subst hHH;have hfx:(x1::xs).filter (fun x=>decide (x.Lo>H))=xs.filter (fun x=>decide (x.Lo>H)):=List.filter_cons_of_neg (by simp;omega);have hpf:(xs.filter (fun x=>decide (x.Lo>H))).Perm (left.filter (fun x=>decide (x.Lo>H))):=by
    rw [←hfx];exact hp.filter _
   have hfl:(left.filter (fun x=>decide (x.Lo>H))).length≤n:=by
    have h1:=hpf.length_eq;have h2:=List.length_filter_le (fun x:zA=>decide (x.Lo>H)) xs;omega
   rw [ih N _ _ _ hfl (by omega) (by omega) (by omega) (by simp;omega) hpf (hs.2.filter _) (fun x hx=>hv x (List.mem_filter.1 hx).1)];show _=some (out++mg x1 xs);rw [q1,hmx];simp
theorem Yv (F:Nat) (l σ:List zA) (hl:l.length≤1000000000000) (hF:l.length+3<F) (hp:σ.Perm l) (hs:σ.Pairwise (fun x y=>x.Lo≤y.Lo)) (hv:∀x∈l,x.Lo≤x.Hi):Fs F l=some (Mr σ):=by
 unfold Fs;rw [Jy (by simp;omega),List.nil_append,A4d F l.length F [] l σ (Nat.le_refl _) (by omega) (by omega) (by omega) (by simp;omega) hp hs hv,List.nil_append]
theorem B4j:∀(xs:List zA) (c:zA),(mg c xs).length≤xs.length+1:=by
 intro xs
 induction xs with
 | nil=>intro c;simp [mg]
 | cons x xs ih =>
  intro c;unfold mg
  split
  ·have:=ih ⟨c.Lo,if x.Hi>c.Hi then x.Hi else c.Hi⟩;rw [List.length_cons];omega
  ·have:=ih x;simp;omega
theorem A44 (l:List zA):(Mr l).length≤l.length:=by
 cases l with
 | nil=>simp [Mr]
 | cons x xs=>exact B4j xs x
def inS (z:Int) (s:zA):Prop:=2*s.Lo≤z∧z≤2*s.Hi
def mem (z:Int) (l:List zA):Prop:=∃s∈l,inS z s
def valid (l:List zA):Prop:=∀s∈l,s.Lo≤s.Hi
def Canon (l:List zA):Prop:=l.Pairwise (fun a b=>a.Hi<b.Lo)∧valid l
theorem Pm (z:Int):¬mem z []:=by rintro ⟨s,hs,_⟩;cases hs
theorem mem_cons {z:Int} {s:zA} {l:List zA}:mem z (s::l)↔inS z s∨mem z l:=by
 constructor
 ·rintro ⟨t,ht,h⟩;rcases List.mem_cons.1 ht with rfl|ht
  ·exact .inl h
  ·exact .inr ⟨t,ht,h⟩
 ·rintro (h|⟨t,ht,h⟩)
  ·exact ⟨s,by simp,h⟩
  ·exact ⟨t,by simp [ht],h⟩
theorem Canon.tail {s:zA} {l:List zA} (h:Canon (s::l)):Canon l:=⟨(List.pairwise_cons.1 h.1).2,fun t ht=>h.2 t (by simp [ht])⟩
theorem Canon.beyond {s:zA} {l:List zA} (h:Canon (s::l)) {z:Int} (hz:mem z l):2*s.Hi+2≤z:=by
 obtain ⟨t,ht,h1,_⟩:=hz;have:=(List.pairwise_cons.1 h.1).1 t ht;omega
theorem Nx:∀{a b:List zA},Canon a→Canon b→(∀z,mem z a↔mem z b)→a=b:=by
 intro a
 induction a with
 | nil =>
  intro b _ hb h
  cases b with
  | nil=>rfl
  | cons t b =>
   have hv:=hb.2 t (by simp);exact absurd ((h (2*t.Lo)).2 (mem_cons.2 (.inl ⟨by omega,by omega⟩))) (Pm _)
 | cons s a ih =>
  intro b ha hb h;have hs:=ha.2 s (by simp)
  cases b with
  | nil=>exact absurd ((h (2*s.Lo)).1 (mem_cons.2 (.inl ⟨by omega,by omega⟩))) (Pm _)
  | cons t b =>
   have ht:=hb.2 t (by simp);have e1:s.Lo=t.Lo:=by
    have h1:2*t.Lo≤2*s.Lo:=by
     rcases mem_cons.1 ((h (2*s.Lo)).1 (mem_cons.2 (.inl ⟨by omega,by omega⟩))) with h1|h1
     ·exact h1.1
     ·have:=hb.beyond h1;omega
    have h2:2*s.Lo≤2*t.Lo:=by
     rcases mem_cons.1 ((h (2*t.Lo)).2 (mem_cons.2 (.inl ⟨by omega,by omega⟩))) with h1|h1
     ·exact h1.1
     ·have:=ha.beyond h1;omega
    omega
   have e2:s.Hi=t.Hi:=by
    rcases Int.lt_trichotomy s.Hi t.Hi with hlt|hlt|hlt
    ·rcases mem_cons.1 ((h (2*s.Hi+1)).2 (mem_cons.2 (.inl ⟨by omega,by omega⟩))) with h1|h1
     ·have:=h1.2;omega
     ·have:=ha.beyond h1;omega
    ·exact hlt
    ·rcases mem_cons.1 ((h (2*t.Hi+1)).1 (mem_cons.2 (.inl ⟨by omega,by omega⟩))) with h1|h1
     ·have:=h1.2;omega
     ·have:=hb.beyond h1;omega
   have e3:s=t:=by cases s;cases t;simp_all
   subst e3;rw [ih ha.tail hb.tail];intro z;constructor
   ·intro hz;have hb1:=ha.beyond hz;rcases mem_cons.1 ((h z).1 (mem_cons.2 (.inr hz))) with h1|h1
    ·have:=h1.2;omega
    ·exact h1
   ·intro hz;have hb1:=hb.beyond hz;rcases mem_cons.1 ((h z).2 (mem_cons.2 (.inr hz))) with h1|h1
    ·have:=h1.2;omega
    ·exact h1
theorem B4k:∀(xs:List zA) (c:zA),c.Lo≤c.Hi→xs.Pairwise (fun x y=>x.Lo≤y.Lo)→(∀x∈xs,c.Lo≤x.Lo)→valid xs →
  (∀z,mem z (mg c xs)↔inS z c∨mem z xs)∧Canon (mg c xs)∧∀s∈mg c xs,c.Lo≤s.Lo:=by
 intro xs
 induction xs with
 | nil =>
  intro c hc _ _ _;refine ⟨fun z=>mem_cons,⟨by simp [mg],fun s hs=>?_⟩,fun s hs=>?_⟩<;>simp [mg] at hs<;>subst hs
  ·exact hc
  ·exact Int.le_refl _
 | cons x xs ih =>
  intro c hc hs hl hv;have hx:=hv x (by simp);have hcx:=hl x (by simp);rw [List.pairwise_cons] at hs;unfold mg
  by_cases h:x.Lo≤c.Hi
  ·rw [if_pos h];obtain ⟨h1,h2,h3⟩:=ih ⟨c.Lo,if x.Hi>c.Hi then x.Hi else c.Hi⟩ (by simp only;split<;>omega) hs.2 (fun y hy=>hl y (by simp [hy])) (fun y hy=>hv y (by simp [hy]));refine ⟨fun z=>?_,h2,h3⟩;rw [h1 z,mem_cons];have:inS z ⟨c.Lo,if x.Hi>c.Hi then x.Hi else c.Hi⟩↔inS z c∨inS z x:=by
    unfold inS;simp only
    split<;>omega
   rw [this,or_assoc]
  ·rw [if_neg h];obtain ⟨h1,h2,h3⟩:=ih x hx hs.2 hs.1 (fun y hy=>hv y (by simp [hy]));refine ⟨fun z=>?_,⟨List.pairwise_cons.2 ⟨fun y hy=>?_,h2.1⟩,fun s hs=>?_⟩,fun s hs=>?_⟩
   ·rw [mem_cons,h1 z,mem_cons]
   ·have:=h3 y hy;omega
   ·rcases List.mem_cons.1 hs with rfl|hs
    ·exact hc
    ·exact h2.2 s hs
   ·rcases List.mem_cons.1 hs with rfl|hs
    ·exact Int.le_refl _
    ·have:=h3 s hs;omega
theorem T0 {l:List zA} (hs:l.Pairwise (fun x y=>x.Lo≤y.Lo)) (hv:valid l):(∀z,mem z (Mr l)↔mem z l)∧Canon (Mr l):=by
 cases l with
 | nil=>exact ⟨fun z=>Iff.rfl,⟨List.Pairwise.nil,fun s hs=>by cases hs⟩⟩
 | cons x xs =>
  rw [List.pairwise_cons] at hs;obtain ⟨h1,h2,_⟩:=B4k xs x (hv x (by simp)) hs.2 hs.1 (fun y hy=>hv y (by simp [hy]));exact ⟨fun z=>(h1 z).trans mem_cons.symm,h2⟩
def un (l:List zA):List zA:=Mr (l.mergeSort (fun x y=>decide (x.Lo≤y.Lo)))
theorem Rm (l:List zA):(l.mergeSort (fun x y=>decide (x.Lo≤y.Lo))).Pairwise (fun x y=>x.Lo≤y.Lo):=by
 have:=List.pairwise_mergeSort (le:=fun x y:zA=>decide (x.Lo≤y.Lo)) (fun a b c h1 h2=>by simp at *;omega) (fun a b=>by simp;omega) l;exact this.imp (fun h=>by simpa using h)
theorem A26 {a b:List zA} (h:a.Perm b) (z:Int):mem z a↔mem z b:=by
 constructor
 ·rintro ⟨s,hs,hz⟩;exact ⟨s,h.mem_iff.1 hs,hz⟩
 ·rintro ⟨s,hs,hz⟩;exact ⟨s,h.mem_iff.2 hs,hz⟩
theorem T3 {a b:List zA} (h:a.Perm b) (hv:valid b):valid a:=fun s hs=>hv s (h.mem_iff.1 hs)
theorem Vc {l:List zA} (hv:valid l) (z:Int):mem z (un l)↔mem z l:=by
 have hp:=List.mergeSort_perm l (fun x y=>decide (x.Lo≤y.Lo));exact ((T0 (Rm l) (T3 hp hv)).1 z).trans (A26 hp z)
theorem Pk {l:List zA} (hv:valid l):Canon (un l):=(T0 (Rm l) (T3 (List.mergeSort_perm l _) hv)).2
theorem A81 {l σ:List zA} (hp:σ.Perm l) (hs:σ.Pairwise (fun x y=>x.Lo≤y.Lo)) (hv:valid l):Mr σ=un l:=by
 obtain ⟨h1,h2⟩:=T0 hs (T3 hp hv);exact Nx h2 (Pk hv) fun z=>(h1 z).trans ((A26 hp z).trans (Vc hv z).symm)
theorem B3f {l:List zA} (h:Canon l):un l=l:=Nx (Pk h.2) h (Vc h.2)
def Lq (B:Int) (l:List zA):Prop:=∀s∈l,-B≤s.Lo∧s.Hi≤B
theorem Nd {B:Int} {l:List zA} (hv:valid l) (h:∀z,mem z l→-2*B≤z∧z≤2*B):Lq B l:=by
 intro s hs;have hvs:=hv s hs;have h1:=h (2*s.Lo) ⟨s,hs,by unfold inS;omega⟩;have h2:=h (2*s.Hi) ⟨s,hs,by unfold inS;omega⟩;omega
theorem P3 {B:Int} {l:List zA} (h:Lq B l) {z:Int} (hz:mem z l):-2*B≤z∧z≤2*B:=by
 obtain ⟨s,hs,h1,h2⟩:=hz;have:=h s hs;omega
theorem A6a:∀{l:List zA} {lo hi:Int},Canon l→(∀s∈l,lo≤s.Lo∧s.Hi≤hi)→lo≤hi+1→(l.length:Int)≤hi-lo+1:=by
 intro l
 induction l with
 | nil=>intro lo hi _ _ h;simp;omega
 | cons s l ih =>
  intro lo hi hc hb h;have hs:=hb s (by simp);have hv:=hc.2 s (by simp);have hp:=(List.pairwise_cons.1 hc.1).1;have:=ih (lo:=s.Hi+1) (hi:=hi) hc.tail (fun t ht=>⟨by have:=hp t ht;omega,(hb t (by simp [ht])).2⟩) (by omega);simp;omega
def wd (l:List zA) (d:Int):List zA:=un (l.map fun s=>⟨s.Lo-d,s.Hi+d⟩)
theorem Uc {l:List zA} {d:Int} (hv:valid l) (hd:0≤d):valid (l.map fun s=>(⟨s.Lo-d,s.Hi+d⟩:zA)):=by
 intro s hs;obtain ⟨t,ht,rfl⟩:=List.mem_map.1 hs;have:=hv t ht;simp only;omega
theorem B5u {l:List zA} {d:Int} (hv:valid l) (hd:0≤d) (z:Int):mem z (wd l d)↔∃y,mem y l∧y-2*d≤z∧z≤y+2*d:=by
 unfold wd;rw [Vc (Uc hv hd)];constructor
 ·rintro ⟨s,hs,h1,h2⟩;obtain ⟨t,ht,rfl⟩:=List.mem_map.1 hs;have hvt:=hv t ht;simp only at h1 h2
  by_cases ha:z<2*t.Lo
  ·exact ⟨2*t.Lo,⟨t,ht,by unfold inS;omega⟩,by omega,by omega⟩
  ·by_cases hb:2*t.Hi<z
   ·exact ⟨2*t.Hi,⟨t,ht,by unfold inS;omega⟩,by omega,by omega⟩
   ·exact ⟨z,⟨t,ht,by unfold inS;omega⟩,by omega,by omega⟩
 ·rintro ⟨y,⟨t,ht,h1,h2⟩,h3,h4⟩;exact ⟨_,List.mem_map.2 ⟨t,ht,rfl⟩,by unfold inS;simp only;omega⟩
def cm (a b:zA):Option zA:=if Mb (comm a b)=true then some (comm a b) else none
theorem A1h {a b:zA} {z:Int}:inS z (comm a b)↔inS z a∧inS z b:=by
 unfold comm inS;simp only
 split<;>split<;>omega
theorem A8i {a b:zA} {z:Int}:(∃s,cm a b=some s∧inS z s)↔inS z a∧inS z b:=by
 rw [←A1h];unfold cm Mb;simp only [decide_eq_true_eq];constructor
 ·rintro ⟨s,h,h1⟩
  by_cases hc:(comm a b).Lo≤(comm a b).Hi
  ·rw [if_pos hc] at h;cases h;exact h1
  ·rw [if_neg hc] at h;cases h
 ·intro h;rw [if_pos (by unfold inS at h;omega)];exact ⟨_,rfl,h⟩
theorem A1f {a b s:zA} (h:cm a b=some s):s.Lo≤s.Hi:=by
 unfold cm Mb at h;simp only [decide_eq_true_eq] at h
 by_cases hc:(comm a b).Lo≤(comm a b).Hi
 ·rw [if_pos hc] at h;cases h;exact hc
 ·rw [if_neg hc] at h;cases h
def prs (a b:List zA):List zA:=a.flatMap fun x=>b.filterMap (cm x)
theorem Ux (a b:List zA):valid (prs a b):=by
 intro s hs;obtain ⟨x,_,hs⟩:=List.mem_flatMap.1 hs;obtain ⟨y,_,hs⟩:=List.mem_filterMap.1 hs;exact A1f hs
theorem B28 (a b:List zA) (z:Int):mem z (prs a b)↔mem z a∧mem z b:=by
 constructor
 ·rintro ⟨s,hs,hz⟩;obtain ⟨x,hx,hs⟩:=List.mem_flatMap.1 hs;obtain ⟨y,hy,hs⟩:=List.mem_filterMap.1 hs;obtain ⟨h1,h2⟩:=A8i.1 ⟨s,hs,hz⟩;exact ⟨⟨x,hx,h1⟩,⟨y,hy,h2⟩⟩
 ·rintro ⟨⟨x,hx,h1⟩,⟨y,hy,h2⟩⟩;obtain ⟨s,hs,hz⟩:=A8i.2 ⟨h1,h2⟩;exact ⟨s,List.mem_flatMap.2 ⟨x,hx,List.mem_filterMap.2 ⟨y,hy,hs⟩⟩,hz⟩
def mt (a b:List zA):List zA:=un (prs a b)
theorem Xs (a b:List zA) (z:Int):mem z (mt a b)↔mem z a∧mem z b:=(Vc (Ux a b) z).trans (B28 a b z)
theorem Q8 (a b:List zA):Canon (mt a b):=Pk (Ux a b)
def nr (a b:List zA) (d:Int):List zA:=mt a (wd b d)
theorem Pv {a b:List zA} {d:Int} (hv:valid b) (hd:0≤d) (z:Int):mem z (nr a b d)↔mem z a∧∃y,mem y b∧y-2*d≤z∧z≤y+2*d:=by
 unfold nr;rw [Xs,B5u hv hd]
theorem Xw (a b:List zA) (d:Int):Canon (nr a b d):=Q8 _ _
theorem A7a {B:Int} {a b:List zA} {d:Int} (hv:valid b) (hd:0≤d) (h:Lq B a):Lq B (nr a b d) :=
 Nd (Xw _ _ _).2 fun z hz=>P3 h ((Pv hv hd z).1 hz).1
def tp:Nat→List zA→List zA→List zA
 | 0,_,_=>[]
 | n+1,a::ys,b::zs=>(cm a b).toList++(if a.Hi<b.Hi then tp n ys (b::zs) else tp n (a::ys) zs)
 | _+1,_,_=>[]
theorem Yg:∀(n:Nat) (a b:List zA),valid (tp n a b):=by
 intro n
 induction n with
 | zero=>intro a b s hs;simp [tp] at hs
 | succ n ih =>
  intro a b s hs
  cases a with
  | nil=>simp [tp] at hs
  | cons x a =>
   cases b with
   | nil=>simp [tp] at hs
   | cons y b =>
    unfold tp at hs;rcases List.mem_append.1 hs with hs|hs
    ·cases hc:cm x y with
     | none=>rw [hc] at hs;simp at hs
     | some t=>rw [hc] at hs;simp at hs;subst hs;exact A1f hc
    ·split at hs
     ·exact ih _ _ s hs
     ·exact ih _ _ s hs
theorem B1u {a b:List zA} {z:Int}:mem z (a++b)↔mem z a∨mem z b:=by
 constructor
 ·rintro ⟨s,hs,hz⟩;rcases List.mem_append.1 hs with h|h
  ·exact .inl ⟨s,h,hz⟩
  ·exact .inr ⟨s,h,hz⟩
 ·rintro (⟨s,h,hz⟩|⟨s,h,hz⟩)
  ·exact ⟨s,List.mem_append.2 (.inl h),hz⟩
  ·exact ⟨s,List.mem_append.2 (.inr h),hz⟩
theorem B4i {a b:zA} {z:Int}:mem z (cm a b).toList↔inS z a∧inS z b:=by
 rw [←A8i];constructor
 ·rintro ⟨s,hs,hz⟩
  cases hc:cm a b with
  | none=>rw [hc] at hs;simp at hs
  | some t=>rw [hc] at hs;simp at hs;subst hs;exact ⟨_,rfl,hz⟩
 ·rintro ⟨s,hs,hz⟩;exact ⟨s,by rw [hs];simp,hz⟩
theorem B0t:∀(n:Nat) (a b:List zA),a.length+b.length≤n→Canon a→Canon b→∀z,mem z (tp n a b)↔mem z a∧mem z b:=by
 intro n
 induction n with
 | zero =>
  intro a b hn _ _ z;have:a=[]:=List.length_eq_zero_iff.1 (by omega);subst this;exact ⟨fun h=>absurd h (Pm z),fun h=>absurd h.1 (Pm z)⟩
 | succ n ih =>
  intro a b hn ha hb z
  cases a with
  | nil=>exact ⟨fun h=>absurd h (Pm z),fun h=>absurd h.1 (Pm z)⟩
  | cons x a =>
   cases b with
   | nil=>exact ⟨fun h=>absurd h (Pm z),fun h=>absurd h.2 (Pm z)⟩
   | cons y b =>
    simp only [List.length_cons] at hn;unfold tp;rw [B1u,B4i]
    by_cases hlt:x.Hi<y.Hi
    ·rw [if_pos hlt,ih a (y::b) (by simp only [List.length_cons];omega) ha.tail hb z];constructor
     ·rintro (⟨h1,h2⟩|⟨h1,h2⟩)
      ·exact ⟨mem_cons.2 (.inl h1),mem_cons.2 (.inl h2)⟩
      ·exact ⟨mem_cons.2 (.inr h1),h2⟩
     ·rintro ⟨h1,h2⟩;rcases mem_cons.1 h1 with h1|h1
      ·rcases mem_cons.1 h2 with h2|h2
       ·exact .inl ⟨h1,h2⟩
       ·have:=hb.beyond h2;have:=h1.2;omega
      ·exact .inr ⟨h1,h2⟩
    ·rw [if_neg hlt,ih (x::a) b (by simp only [List.length_cons];omega) ha hb.tail z];constructor
     ·rintro (⟨h1,h2⟩|⟨h1,h2⟩)
      ·exact ⟨mem_cons.2 (.inl h1),mem_cons.2 (.inl h2)⟩
      ·exact ⟨h1,mem_cons.2 (.inr h2)⟩
     ·rintro ⟨h1,h2⟩;rcases mem_cons.1 h2 with h2|h2
      ·rcases mem_cons.1 h1 with h1|h1
       ·exact .inl ⟨h1,h2⟩
       ·have:=ha.beyond h1;have:=h2.2;omega
      ·exact .inr ⟨h1,h2⟩
theorem B5q:∀(n:Nat) (a b:List zA),(tp n a b).length≤n:=by
 intro n
 induction n with
 | zero=>intro a b;simp [tp]
 | succ n ih =>
  intro a b
  cases a with
  | nil=>simp [tp]
  | cons x a =>
   cases b with
   | nil=>simp [tp]
   | cons y b =>
    unfold tp;have h1:(cm x y).toList.length≤1:=by cases cm x y<;>simp
    rw [List.length_append]
    split
    ·have:=ih a (y::b);omega
    ·have:=ih (x::a) b;omega
theorem B6y {n:Nat} {a b:List zA} (hn:a.length+b.length≤n) (ha:Canon a) (hb:Canon b):un (tp n a b)=mt a b :=
 Nx (Pk (Yg n a b)) (Q8 a b) fun z=>(Vc (Yg n a b) z).trans ((B0t n a b hn ha hb z).trans (Xs a b z).symm)
def FF:Nat:=2000000000000
theorem Nl (i:Nat):((i:Int)+1)=((i+1:Nat):Int):=by omega
theorem Vd {F:Nat} (hF:FF≤F) {l:List zA} (hv:valid l) (hb:∀s∈l,spB s) (hl:l.length≤1000000000000):C6 F l=some (un l):=by
 unfold FF at hF;obtain ⟨σ,h1,h2,h3⟩:=A82 F l (by omega) hl hb;rw [h1,A81 h2 h3 hv]
theorem Nc {F:Nat} (hF:FF≤F) {l:List zA} (hv:valid l) (hl:l.length≤1000000000000):Fs F l=some (un l):=by
 unfold FF at hF;exact Yv F l _ hl (by omega) (List.mergeSort_perm l _) (Rm l) hv
section
variable {l:List zA} {d:Int}
theorem A83 (F:Nat) (hB:Lq 1000000000 l) (hv:valid l) (hd:0≤d∧d≤1000000000) (hl:l.length≤1000000000000):∀(n N i:Nat) (acc:List zA),i+n=l.length→n<N→acc.length+n≤1000000000000 →
  Co F l d N (i:Int) acc=Fj F (acc++(l.drop i).map fun s=>⟨s.Lo-d,s.Hi+d⟩):=by
 intro n
 induction n with
 | zero =>
  intro N i acc hi hN ha;obtain ⟨N,rfl⟩:∃N',N=N'+1:=⟨N-1,by omega⟩;show Cn F l d (Co F l d N) (i:Int) acc=_;unfold Cn;rw [An (by simp;omega),List.drop_eq_nil_of_le (by omega)];simp
 | succ n ih =>
  intro N i acc hi hN ha;obtain ⟨N,rfl⟩:∃N',N=N'+1:=⟨N-1,by omega⟩;show Cn F l d (Co F l d N) (i:Int) acc=_;unfold Cn;have hm:l.getD i default∈l:=by rw [List.getD_eq_getElem?_getD,List.getElem?_eq_getElem (by omega:i<l.length)];exact List.getElem_mem _
  have hb:=hB _ hm;rw [Bk (i:=i) (by omega) default];rw [Ap (by simp;omega),Bm default (by omega),Int.toNat_natCast];have hvx:=hv _ hm;generalize l.getD i default=x at *;rw [ckb (by omega),ckb (by omega),Jy (by simp;omega),ckb (by omega),Nl,ih N (i+1) _ (by omega) (by omega) (by simp;omega)];simp
theorem A4o (F:Nat) (hB:Lq 1000000000 l) (hv:valid l) (hd:0≤d∧d≤1000000000) (hl:l.length≤1000000000000):∀(n N i:Nat) (acc:List zA),i+n=l.length→n<N→acc.length+n≤1000000000000 →
  H9 F l d N acc (i:Int)=La F (acc++(l.drop i).map fun s=>⟨s.Lo-d,s.Hi+d⟩):=by
 intro n
 induction n with
 | zero =>
  intro N i acc hi hN ha;obtain ⟨N,rfl⟩:∃N',N=N'+1:=⟨N-1,by omega⟩;show H8 F l d (H9 F l d N) acc (i:Int)=_;unfold H8;rw [An (by simp;omega),List.drop_eq_nil_of_le (by omega)];simp
 | succ n ih =>
  intro N i acc hi hN ha;obtain ⟨N,rfl⟩:∃N',N=N'+1:=⟨N-1,by omega⟩;show H8 F l d (H9 F l d N) acc (i:Int)=_;unfold H8;have hm:l.getD i default∈l:=by rw [List.getD_eq_getElem?_getD,List.getElem?_eq_getElem (by omega:i<l.length)];exact List.getElem_mem _
  have hb:=hB _ hm;have hvx:=hv _ hm;rw [Bk (i:=i) (by omega) default];rw [Ap (by simp;omega),Bm default (by omega),Int.toNat_natCast,ckb (by omega),Bm default (by omega),Int.toNat_natCast,ckb (by omega),Jy (by simp;omega),ckb (by omega),Nl,ih N (i+1) _ (by omega) (by omega) (by simp;omega)];simp
theorem B5v (hB:Lq 1000000000 l) (hv:valid l) (hd:0≤d∧d≤1000000000):∀s∈l.map (fun s=>(⟨s.Lo-d,s.Hi+d⟩:zA)),spB s:=by
 intro s hs;obtain ⟨t,ht,rfl⟩:=List.mem_map.1 hs;have:=hB t ht;have:=hv t ht;unfold spB;simp only;omega
theorem B2x {F:Nat} (hF:FF≤F) (hB:Lq 1000000000 l) (hv:valid l) (hd:0≤d∧d≤1000000000) (hl:l.length≤1000000000000):Hm F l d=some (wd l d):=by
 have hF':=hF;unfold FF at hF';unfold Hm;have hh:=A83 F hB hv hd hl l.length F 0 [] (by omega) (by omega) (by simp;omega);refine Eq.trans hh ?_;unfold Fj;rw [List.drop_zero,List.nil_append,Vd hF (Uc hv hd.1) (B5v hB hv hd) (by simpa using hl),sb];rfl
theorem A2c {F:Nat} (hF:FF≤F) (hB:Lq 1000000000 l) (hv:valid l) (hd:0≤d∧d≤1000000000) (hl:l.length≤1000000000000):J8 F l d=some (wd l d):=by
 have hF':=hF;unfold FF at hF';unfold J8;have hh:=A4o F hB hv hd hl l.length F 0 [] (by omega) (by omega) (by simp;omega);refine Eq.trans hh ?_;unfold La;rw [List.drop_zero,List.nil_append,Nc hF (Uc hv hd.1) (by simpa using hl),sb];rfl
end
theorem cmB {a b:zA} {β:Type} (x y:β):(bif (decide ((comm a b).Lo≤(comm a b).Hi)) then x else y)=match cm a b with|some _=>x|none=>y:=by
 unfold cm Mb
 by_cases h:(comm a b).Lo≤(comm a b).Hi<;>simp [h]
section
variable {a b:List zA}
theorem A76 (F:Nat) (ha:a.length≤100000000000) (hb:b.length≤100000000000):∀(n N i k:Nat) (acc:List zA),i≤a.length→k≤b.length→a.length-i+(b.length-k)≤n→n<N→acc.length+n≤1000000000000 →
  C1 F a b N acc (i:Int) (k:Int)=E3 F (acc++tp n (a.drop i) (b.drop k)):=by
 intro n
 induction n with
 | zero =>
  intro N i k acc hi hk hn hN hacc;obtain ⟨N,rfl⟩:∃N',N=N'+1:=⟨N-1,by omega⟩;show Cm F a b (C1 F a b N) acc (i:Int) (k:Int)=_;unfold Cm;rw [An (by simp [cond_eq_ite];omega)];simp [tp]
 | succ n ih =>
  intro N i k acc hi hk hn hN hacc;obtain ⟨N,rfl⟩:∃N',N=N'+1:=⟨N-1,by omega⟩;show Cm F a b (C1 F a b N) acc (i:Int) (k:Int)=_;unfold Cm
  by_cases h1:i<a.length
  ·by_cases h2:k<b.length
   ·rw [Ap (by simp [cond_eq_ite];omega),Bm default (by omega),Bm default (by omega),Int.toNat_natCast,Int.toNat_natCast,R5];have ga:∀{β:Type} (f:zA→Option β),(Ak a (i:Int)).bind f=f (a.getD i default):=fun f=>by rw [Bm default (by omega),Int.toNat_natCast]
    have gb:∀{β:Type} (f:zA→Option β),(Ak b (k:Int)).bind f=f (b.getD k default):=fun f=>by rw [Bm default (by omega),Int.toNat_natCast]
    rw [Bk (i:=i) h1 default,Bk (i:=k) h2 default];generalize hx:a.getD i default=x at *;generalize hy:b.getD k default=y at *;have hK:∀(c:List zA),c.length+n≤1000000000000→E4 a b (i:Int) (k:Int) (C1 F a b N) c=E3 F (c++if x.Hi<y.Hi then tp n (a.drop (i+1)) (y::b.drop (k+1)) else tp n (x::a.drop (i+1)) (b.drop (k+1))):=by
     intro c hc;unfold E4;rw [ga,gb]
     by_cases hlt:x.Hi<y.Hi
     ·rw [Ap (by simpa using hlt),ckb (by omega),Nl,ih N (i+1) k c (by omega) hk (by omega) (by omega) hc,if_pos hlt,Bk (i:=k) h2 default,hy]
     ·rw [An (by simpa using hlt),ckb (by omega),Nl,ih N i (k+1) c hi (by omega) (by omega) (by omega) hc,if_neg hlt,Bk (i:=i) h1 default,hx]
    refine Eq.trans (cmB _ _) ?_
    conv=>rhs;unfold tp
    cases hc:cm x y with
    | none=>simp only;rw [hK acc (by omega)];simp
    | some s =>
     have hs:s=comm x y:=by unfold cm at hc;split at hc<;>simp_all
     subst hs;simp only;rw [Jy (by simp;omega),hK _ (by simp;omega)];simp
   ·rw [An (by simp [cond_eq_ite];omega),List.drop_eq_nil_of_le (by omega:b.length≤k)]
    cases a.drop i<;>simp [tp]
  ·rw [An (by simp [cond_eq_ite];omega),List.drop_eq_nil_of_le (by omega:a.length≤i)];simp [tp]
theorem A5m {F:Nat} (hF:FF≤F) (ha:a.length≤100000000000) (hb:b.length≤100000000000) (hca:Canon a) (hcb:Canon b) (hB:Lq 1000000000 a):Fx F a b=some (mt a b):=by
 have hF':=hF;unfold FF at hF';unfold Fx;have hh:=A76 F ha hb (a.length+b.length) F 0 0 [] (by omega) (by omega) (by omega) (by omega) (by simp;omega);refine Eq.trans hh ?_;unfold E3;have hlen:=B5q (a.length+b.length) a b;have hv:=Yg (a.length+b.length) a b;have hw:Lq 1000000000 (tp (a.length+b.length) a b):=Nd hv fun z hz=>P3 hB ((B0t _ a b (Nat.le_refl _) hca hcb z).1 hz).1;rw [List.drop_zero,List.drop_zero,List.nil_append,Vd hF hv (fun s hs=>by have:=hw s hs;have:=hv s hs;unfold spB;omega) (by omega),sb,B6y (Nat.le_refl _) hca hcb]
theorem A2i (ha:a.length≤1000000) (hb:b.length≤1000000) (i:Nat) (hi:i<a.length) (k2:List zA→Int→Option (List zA)):∀(n N j:Nat) (acc:List zA),j+n=b.length→n<N→acc.length+n≤2000000000000 →
  Es a b (i:Int) k2 N acc (j:Int)=L8 (i:Int) k2 (acc++(b.drop j).filterMap (cm (a.getD i default))):=by
 intro n
 induction n with
 | zero =>
  intro N j acc hj hN hacc;obtain ⟨N,rfl⟩:∃N',N=N'+1:=⟨N-1,by omega⟩;show H7 a b (i:Int) k2 (Es a b (i:Int) k2 N) acc (j:Int)=_;unfold H7;rw [An (by simp;omega),List.drop_eq_nil_of_le (by omega)];simp
 | succ n ih =>
  intro N j acc hj hN hacc;obtain ⟨N,rfl⟩:∃N',N=N'+1:=⟨N-1,by omega⟩;show H7 a b (i:Int) k2 (Es a b (i:Int) k2 N) acc (j:Int)=_;unfold H7 L9;rw [Bk (i:=j) (by omega) default];rw [Ap (by simp;omega),Bm default (by omega),Bm default (by omega),Int.toNat_natCast,Int.toNat_natCast,Sv];have hck:∀(l:List zA),(ck ((j:Int)+1)).bind (fun x1698=>Es a b (i:Int) k2 N l x1698)=Es a b (i:Int) k2 N l ((j+1:Nat):Int):=fun l=>by rw [ckb (by omega),Nl]
  refine Eq.trans (cmB _ _) ?_
  cases hc:cm (a.getD i default) (b.getD j default) with
  | none=>simp only;rw [hck,ih N (j+1) acc (by omega) (by omega) (by omega),List.filterMap_cons,hc]
  | some s =>
   have hs:s=comm (a.getD i default) (b.getD j default):=by unfold cm at hc;split at hc<;>simp_all
   simp only;rw [Jy (by simp;omega),hck,ih N (j+1) _ (by omega) (by omega) (by simp;omega),List.filterMap_cons,hc,hs,List.append_assoc];rfl
theorem A4m (F:Nat) (hF:FF≤F) (ha:a.length≤1000000) (hb:b.length≤1000000):∀(n N i:Nat) (acc:List zA),i+n=a.length→n<N→acc.length+n*b.length≤1000000000000 →
  Fw F a b N acc (i:Int)=L7 F (acc++prs (a.drop i) b):=by
 have hF':=hF;unfold FF at hF';intro n
 induction n with
 | zero =>
  intro N i acc hi hN hacc;obtain ⟨N,rfl⟩:∃N',N=N'+1:=⟨N-1,by omega⟩;show H6 F a b (Fw F a b N) acc (i:Int)=_;unfold H6;rw [An (by simp;omega),List.drop_eq_nil_of_le (by omega)];simp [prs]
 | succ n ih =>
  intro N i acc hi hN hacc;obtain ⟨N,rfl⟩:∃N',N=N'+1:=⟨N-1,by omega⟩;show H6 F a b (Fw F a b N) acc (i:Int)=_;unfold H6;have hmul:(n+1)*b.length=n*b.length+b.length:=Nat.succ_mul ..;rw [Ap (by simp;omega)];have h:=A2i ha hb i (by omega) (Fw F a b N) b.length F 0 acc (by omega) (by omega) (by omega);refine Eq.trans h ?_;unfold L8;have hlen:=List.length_filterMap_le (cm (a.getD i default)) b;rw [ckb (by omega),Nl,List.drop_zero,ih N (i+1) _ (by omega) (by omega) (by rw [List.length_append];omega),Bk (i:=i) (by omega) default,List.append_assoc];rfl
theorem Vt {F:Nat} (hF:FF≤F) (ha:a.length≤1000000) (hb:b.length≤1000000):H5 F a b=some (mt a b):=by
 have hF':=hF;unfold FF at hF';unfold H5;have hmul:a.length*b.length≤1000000*1000000:=Nat.mul_le_mul ha hb;have hh:=A4m F hF ha hb a.length F 0 [] (by omega) (by omega) (by simp;omega);refine Eq.trans hh ?_;unfold L7;have hlen:(prs a b).length≤a.length*b.length:=by
  unfold prs
  clear hmul hh ha
  induction a with
  | nil=>simp
  | cons x a ih =>
   have:=List.length_filterMap_le (cm x) b;simp [Nat.succ_mul] at ih ⊢;omega
 rw [List.drop_zero,List.nil_append,Nc hF (Ux a b) (by omega),sb];rfl
end
def Good (l:List zA):Prop:=Canon l∧Lq 200000 l
theorem Good.len {l:List zA} (h:Good l):l.length≤400001:=by
 have:=A6a (lo:=-200000) (hi:=200000) h.1 h.2 (by omega);omega
theorem B5r (l:List zA):(un l).length≤l.length:=by
 have:=A44 (l.mergeSort (fun x y=>decide (x.Lo≤y.Lo)));rw [List.length_mergeSort] at this;exact this
theorem B0y (l:List zA) (d:Int):(wd l d).length≤l.length:=by
 have:=B5r (l.map fun s=>(⟨s.Lo-d,s.Hi+d⟩:zA))
 simpa [wd] using this
theorem Good.nr {a b:List zA} {d:Int} (ha:Good a) (hb:Good b) (hd:0≤d):Good (nr a b d):=⟨Xw a b d,A7a hb.1.2 hd ha.2⟩
theorem Good.mt {a b:List zA} (ha:Good a):Good (mt a b):=⟨Q8 a b,Nd (Q8 a b).2 fun z hz=>P3 ha.2 ((Xs a b z).1 hz).1⟩
theorem Good.big {l:List zA} (h:Good l):Lq 1000000000 l:=fun s hs=>by have:=h.2 s hs;omega
theorem B1x {F:Nat} (hF:FF≤F) {a b:List zA} {d:Int} (ha:Good a) (hb:Good b) (hd:0≤d∧d≤1000000000):Ea F a b d=some (nr a b d):=by
 have h1:=ha.len;have h2:=hb.len;have h3:=B0y b d;unfold Ea;rw [B2x hF hb.big hb.1.2 hd (by omega),sb,A5m hF (by omega) (by omega) ha.1 (show Canon (wd b d) from Pk (Uc hb.1.2 hd.1)) ha.big,sb];rfl
theorem Vu {F:Nat} (hF:FF≤F) {a b:List zA} {d:Int} (ha:Good a) (hb:Good b) (hd:0≤d∧d≤1000000000) {β:Type} (f:List zA→Option β) :
  ((J8 F b d).bind fun y=>(H5 F a y).bind f)=f (nr a b d):=by
 have h1:=ha.len;have h2:=hb.len;have h3:=B0y b d;rw [A2c hF hb.big hb.1.2 hd (by omega),sb,Vt hF (by omega) (by omega),sb];rfl
abbrev M0:=List (List zA)
def gt (S:M0) (i:Nat):List zA:=S.getD i []
def ne (S:M0) (i:Nat):Bool:=decide ((gt S i).length>0)
def lk (S:M0) (br:Int) (i j:Nat):Prop:=i<j∧j<S.length∧ne S i=true∧ne S j=true∧(∀x,i<x→x<j→ne S x=false)∧(j:Int)-i≤br
theorem A9j {S:M0} {br:Int} {i j j':Nat} (h:lk S br i j) (h':lk S br i j'):j=j':=by
 obtain ⟨h1,h2,h3,h4,h5,h6⟩:=h;obtain ⟨g1,g2,g3,g4,g5,g6⟩:=h';rcases Nat.lt_trichotomy j j' with hlt|hlt|hlt
 ·have:=g5 j h1 hlt;rw [this] at h4;cases h4
 ·exact hlt
 ·have:=h5 j' g1 hlt;rw [this] at g4;cases g4
section
variable (S:M0) (br jp:Int)
end
def AllGood (f:M0):Prop:=∀x∈f,Good x
theorem Xf:Good []:=⟨⟨.nil,fun s hs=>by cases hs⟩,fun s hs=>by cases hs⟩
theorem AllGood.gt {f:M0} (h:AllGood f) (i:Nat):Good (gt f i):=by
 unfold Proofs.YtbhjgebjojdohaaGreat.gt;rw [List.getD_eq_getElem?_getD]
 by_cases hi:i<f.length
 ·rw [List.getElem?_eq_getElem hi];exact h _ (List.getElem_mem hi)
 ·rw [List.getElem?_eq_none (by omega)];exact Xf
theorem AllGood.set {f:M0} (h:AllGood f) (i:Nat) {x:List zA} (hx:Good x):AllGood (f.set i x):=by
 intro y hy;rcases List.mem_or_eq_of_mem_set hy with h1|h1
 ·exact h y h1
 ·rw [h1];exact hx
theorem B48 {f:M0} {i j:Nat} {x:List zA} (hi:i<f.length):gt (f.set i x) j=if i=j then x else gt f j:=by
 unfold gt;rw [List.getD_eq_getElem?_getD,List.getD_eq_getElem?_getD,List.getElem?_set]
 by_cases h:i=j
 ·rw [if_pos h,if_pos h,if_pos hi];rfl
 ·rw [if_neg h,if_neg h]
theorem B47 {a b:M0} (hl:a.length=b.length) (h:∀i<a.length,gt a i=gt b i):a=b:=by
 apply List.ext_getElem hl;intro i h1 h2;have:=h i h1;unfold gt at this;rw [List.getD_eq_getElem?_getD,List.getD_eq_getElem?_getD,List.getElem?_eq_getElem h1,List.getElem?_eq_getElem h2] at this;exact this
section
variable {S:M0} {br jp:Int}
theorem B72 (hj:0≤jp∧jp≤400000) (hb:br≤16) {i j:Nat} (h:lk S br i j):0≤jp*((j:Int)-i)∧jp*((j:Int)-i)≤1000000000:=by
 obtain ⟨h1,_,_,_,_,h6⟩:=h;constructor
 ·exact Int.mul_nonneg hj.1 (by omega)
 ·have h2:jp*((j:Int)-i)≤jp*16:=Int.mul_le_mul_of_nonneg_left (by omega) hj.1;omega
theorem Q4 {β:Type} {f:M0} {i:Nat} (hi:i<f.length) (k:List zA→Option β):(Ak f (i:Int)).bind k=k (gt f i):=by
 rw [Bm [] (by omega),Int.toNat_natCast];rfl
theorem A78 (i:Nat) (hi:i<S.length) (hl:S.length≤100000) (hbr:br≤16):∀(n N j:Nat),j+n=S.length→n<N→i<j→(∀x,i<x→x<j→ne S x=false) →
  ∃r,Dr S (i:Int) br N (j:Int)=some r∧((∃k:Nat,lk S br i k∧r=(k:Int))∨(r=-1∧∀k,¬lk S br i k)):=by
 intro n
 induction n with
 | zero =>
  intro N j hj hN hij hno;obtain ⟨N,rfl⟩:∃N',N=N'+1:=⟨N-1,by omega⟩;refine ⟨-1,?_,.inr ⟨rfl,?_⟩⟩
  ·show Bx S (i:Int) br (Dr S (i:Int) br N) (j:Int)=_;unfold Bx;have e:decide ((j:Int)<((S.length:Nat):Int))=false:=by simp;omega
   rw [e,gdF (g:=false==true&&true) rfl,sb];rfl
  ·rintro k ⟨h1,h2,h3,h4,h5,h6⟩;have:=hno k h1 (by omega);rw [this] at h4;cases h4
 | succ n ih =>
  intro N j hj hN hij hno;obtain ⟨N,rfl⟩:∃N',N=N'+1:=⟨N-1,by omega⟩;have e:decide ((j:Int)<((S.length:Nat):Int))=true:=by simp;omega
  by_cases hd:(j:Int)-i≤br
  ·by_cases hni:ne S i=true
   ·by_cases hnj:ne S j=true
    ·refine ⟨j,?_,.inl ⟨j,⟨hij,by omega,hni,hnj,hno,hd⟩,rfl⟩⟩;show Bx S (i:Int) br (Dr S (i:Int) br N) (j:Int)=_;unfold Bx;unfold ne at hni hnj;rw [e,gdT (g:=true==true&&true) rfl,ckb (by omega)];refine Eq.trans (Ap (by simpa using hd)) ?_;rw [Q4 hi,Ap (by simpa using hni),Q4 (by omega),Ap (by simpa using hnj)]
    ·have hnj':ne S j=false:=by simpa using hnj
     obtain ⟨r,h1,h2⟩:=ih N (j+1) (by omega) (by omega) (by omega) (fun x hx hx2=>by
      by_cases hxj:x=j
      ·rw [hxj];exact hnj'
      ·exact hno x hx (by omega))
     refine ⟨r,?_,h2⟩;show Bx S (i:Int) br (Dr S (i:Int) br N) (j:Int)=_;unfold Bx;unfold ne at hni hnj';rw [e,gdT (g:=true==true&&true) rfl,ckb (by omega)];refine Eq.trans (Ap (by simpa using hd)) ?_;rw [Q4 hi,Ap (by simpa using hni),Q4 (by omega),An (by simpa using hnj'),ckb (by omega),Nl];exact h1
   ·refine ⟨-1,?_,.inr ⟨rfl,fun k hk=>hni hk.2.2.1⟩⟩;have hni':ne S i=false:=by simpa using hni
    show Bx S (i:Int) br (Dr S (i:Int) br N) (j:Int)=_;unfold Bx;unfold ne at hni';rw [e,gdT (g:=true==true&&true) rfl,ckb (by omega)];refine Eq.trans (Ap (by simpa using hd)) ?_;rw [Q4 hi,An (by simpa using hni')];rfl
  ·refine ⟨-1,?_,.inr ⟨rfl,?_⟩⟩
   ·show Bx S (i:Int) br (Dr S (i:Int) br N) (j:Int)=_;unfold Bx;rw [e,gdT (g:=true==true&&true) rfl,ckb (by omega)];refine Eq.trans (An (by simpa using hd)) ?_;rfl
   ·rintro k ⟨h1,h2,h3,h4,h5,h6⟩
    by_cases hk:k<j
    ·have:=hno k h1 hk;rw [this] at h4;cases h4
    ·omega
theorem B1y {F:Nat} (hF:FF≤F) (i:Nat) (hi:i<S.length) (hl:S.length≤100000) (hbr:br≤16) :
  ∃r,Pb F S (i:Int) br=some r∧((∃k:Nat,lk S br i k∧r=(k:Int))∨(r=-1∧∀k,¬lk S br i k)):=by
 unfold FF at hF;unfold Pb;rw [ckb (by omega),Nl];exact A78 i hi hl hbr (S.length-(i+1)) F (i+1) (by omega) (by omega) (by omega) (fun x h1 h2=>by omega)
end
section
variable {S:M0} {br jp:Int} {F:Nat}
theorem B5m {β:Type} {f:M0} {i:Nat} {x:List zA} (hi:i<f.length) (k:M0→Option β):(Gk f (i:Int) x).bind k=k (f.set i x):=by
 unfold Gk;rw [if_pos (by omega),sb,Int.toNat_natCast]
end
section
variable {S:M0} {br jp:Int} {F:Nat}
def Kn (S:M0):List Nat:=(List.range S.length).filter (ne S)
def toI (l:List Nat):List Int:=List.map (fun (x:Nat)=>(x:Int)) l
theorem A03:(Kn S).length≤S.length:=by
 unfold Kn;have:=List.length_filter_le (ne S) (List.range S.length)
 simpa using this
theorem R0 {x:Nat}:x∈Kn S↔x<S.length∧ne S x=true:=by unfold Kn;rw [List.mem_filter,List.mem_range]
theorem A63:(Kn S).Pairwise (· < ·):=List.pairwise_lt_range.filter _
def kn (S:M0) (t:Nat):Nat:=(Kn S).getD t 0
theorem R7 {t:Nat} (h:t<(Kn S).length):kn S t∈Kn S∧(Kn S)[t]? = some (kn S t):=by
 unfold kn;rw [List.getD_eq_getElem?_getD,List.getElem?_eq_getElem h];exact ⟨List.getElem_mem h,rfl⟩
theorem A98 {t u:Nat} (h:t<u) (hu:u<(Kn S).length):kn S t<kn S u:=by
 have:=List.pairwise_iff_getElem.1 (A63 (S:=S)) t u (by omega) hu h;unfold kn;rw [List.getD_eq_getElem?_getD,List.getD_eq_getElem?_getD,List.getElem?_eq_getElem (by omega:t<(Kn S).length),List.getElem?_eq_getElem hu];exact this
theorem Zf {x:Nat} (h:x<S.length) (hn:ne S x=true):∃t,t<(Kn S).length∧kn S t=x:=by
 obtain ⟨t,ht,e⟩:=List.mem_iff_getElem.1 (R0.2 ⟨h,hn⟩);refine ⟨t,ht,?_⟩;unfold kn;rw [List.getD_eq_getElem?_getD,List.getElem?_eq_getElem ht,e];rfl
theorem A5k {t u:Nat} (h:t≤u) (hu:u<(Kn S).length):kn S t≤kn S u:=by
 by_cases e:t=u
 ·rw [e];exact Nat.le_refl _
 ·exact Nat.le_of_lt (A98 (by omega) hu)
theorem B18 {t x:Nat} (ht:t+1<(Kn S).length) (h1:kn S t<x) (h2:x<kn S (t+1)):ne S x=false:=by
 cases hx:ne S x with
 | false=>rfl
 | true =>
  have hb:=(R0.1 (R7 ht).1).1;obtain ⟨u,hu,rfl⟩:=Zf (by omega) hx
  by_cases hut:u≤t
  ·have:=A5k hut (by omega:t<(Kn S).length);omega
  ·have:=A5k (by omega:t+1≤u) hu;omega
theorem A8f {x:Nat} (h0:0<(Kn S).length) (h:x<kn S 0):ne S x=false:=by
 cases hx:ne S x with
 | false=>rfl
 | true =>
  have hb:=(R0.1 (R7 h0).1).1;obtain ⟨u,hu,rfl⟩:=Zf (by omega) hx;have:=A5k (Nat.zero_le u) hu;omega
theorem B70 {x:Nat} (h0:0<(Kn S).length) (hxl:x<S.length) (h:kn S ((Kn S).length-1)<x):ne S x=false:=by
 cases hx:ne S x with
 | false=>rfl
 | true =>
  obtain ⟨u,hu,rfl⟩:=Zf hxl hx;have:=A5k (S:=S) (by omega:u≤(Kn S).length-1) (by omega);omega
theorem A3w (hl:S.length≤100000):∀(n N i:Nat) (acc:List Int),i+n=S.length→n<N→acc.length≤i →
  Gv S N acc (i:Int)=some (acc++toI ((List.range' i n).filter (ne S))):=by
 intro n
 induction n with
 | zero =>
  intro N i acc hi hN ha;obtain ⟨N,rfl⟩:∃N',N=N'+1:=⟨N-1,by omega⟩;show Gu S (Gv S N) acc (i:Int)=_;unfold Gu;rw [An (by simp;omega)];simp [N6,toI]
 | succ n ih =>
  intro N i acc hi hN ha;obtain ⟨N,rfl⟩:∃N',N=N'+1:=⟨N-1,by omega⟩;show Gu S (Gv S N) acc (i:Int)=_;unfold Gu Ky;rw [Ap (by simp;omega),Q4 (by omega),List.range'_succ]
  by_cases h:ne S i=true
  ·have h':=h;unfold ne at h';rw [Ap (by simpa using h'),Jy (by simp;omega),ckb (by omega),Nl,ih N (i+1) _ (by omega) (by omega) (by simp;omega),List.filter_cons_of_pos h];simp [toI]
  ·have h':ne S i=false:=by simpa using h
   have h2:=h';unfold ne at h2;rw [An (by simpa using h2),ckb (by omega),Nl,ih N (i+1) _ (by omega) (by omega) (by omega),List.filter_cons_of_neg h]
theorem A1z (hF:FF≤F) (hl:S.length≤100000):Mo F S=some (toI (Kn S)):=by
 unfold FF at hF;unfold Mo;have:=A3w (S:=S) hl S.length F 0 [] (by omega) (by omega) (by simp);refine Eq.trans this ?_;unfold Kn;rw [List.range_eq_range',List.nil_append]
theorem A90 {β:Type} {t:Nat} (h:t<(Kn S).length) (k:Int→Option β):(Ak (toI (Kn S)) (t:Int)).bind k=k ((kn S t:Nat):Int):=by
 rw [Bm 0 (by simp [toI];omega),Int.toNat_natCast];have:(toI (Kn S)).getD t 0=((kn S t:Nat):Int):=by
  unfold toI;rw [List.getD_eq_getElem?_getD,List.getElem?_map,(R7 h).2];rfl
 rw [this]
end
def gx (l:List zA) (x:Nat):zA:=l.getD x default
theorem A5e {β:Type} {l:List zA} {i:Nat} (hi:i<l.length) (k:zA→Option β):(Ak l (i:Int)).bind k=k (gx l i):=by
 rw [Bm default (by omega),Int.toNat_natCast];rfl
section
variable {S:M0} {F:Nat}
end
abbrev Pl:=Nat×Nat
abbrev Fam:=Pl→List zA
abbrev Lnk:=Pl→Pl→Int→Prop
def A37 (f:Fam) (p q:Pl) (d:Int):Prop:=∀z,mem z (f q)→∃y,mem y (f p)∧y-2*d≤z∧z≤y+2*d
def both (R:Lnk):Lnk:=fun p q d=>R p q d∨R q p d
def Stable (R:Lnk) (f:Fam):Prop:=∀p q d,both R p q d→A37 f p q d
def Below (f g:Fam):Prop:=∀p z,mem z (f p)→mem z (g p)
def Z0 (f:Fam):Prop:=∀p,Good (f p)
def Ve (f:Fam) (p:Pl) (x:List zA):Fam:=fun q=>if q=p then x else f q
theorem Below.refl (f:Fam):Below f f:=fun _ _ h=>h
theorem Below.trans {f g h:Fam} (a:Below f g) (b:Below g h):Below f h:=fun p z hz=>b p z (a p z hz)
section
variable {R:Lnk} {f g h:Fam} {p q:Pl} {d:Int}
theorem A22 (hf:Z0 f) (hd:0≤d):Below (Ve f q (nr (f q) (f p) d)) f:=by
 intro r z hz;unfold Ve at hz
 split at hz
 ·rename_i e;subst e;exact ((Pv (hf p).1.2 hd z).1 hz).1
 ·exact hz
theorem A9q (hf:Z0 f) (hd:0≤d) (hs:Stable R h) (hb:Below h f) (hl:both R p q d):Below h (Ve f q (nr (f q) (f p) d)):=by
 intro r z hz;unfold Ve
 split
 ·rename_i e
  subst e;refine (Pv (hf p).1.2 hd z).2 ⟨hb _ z hz,?_⟩;obtain ⟨y,hy,h1⟩:=hs p r d hl z hz;exact ⟨y,hb _ y hy,h1⟩
 ·exact hb r z hz
theorem A0n (hf:Z0 f) (hd:0≤d):nr (f q) (f p) d=f q↔A37 f p q d:=by
 constructor
 ·intro e z hz;rw [←e] at hz;exact ((Pv (hf p).1.2 hd z).1 hz).2
 ·intro hs;refine Nx (Xw _ _ _) (hf q).1 fun z=>?_;rw [Pv (hf p).1.2 hd z];exact ⟨fun h=>h.1,fun h=>⟨h,hs z h⟩⟩
theorem Yx {S:Fam} (hf:Z0 f) (hg:Z0 g) (h1:Stable R f) (h2:Stable R g) (b1:Below f S) (b2:Below g S) (m1:∀h,Stable R h→Below h S→Below h f) (m2:∀h,Stable R h→Below h S→Below h g) (p:Pl):f p=g p :=
 Nx (hf p).1 (hg p).1 fun z=>⟨fun hz=>m2 f h1 b1 p z hz,fun hz=>m1 g h2 b2 p z hz⟩
end
instance (z:Int) (s:zA):Decidable (inS z s):=by unfold inS;infer_instance
instance (z:Int) (l:List zA):Decidable (mem z l):=by unfold mem;infer_instance
def HN:Nat:=800001
theorem A84:HN=800001:=rfl
attribute [irreducible] HN
def vol (l:List zA):Nat:=(List.range HN).countP (fun k:Nat=>decide (mem ((k:Int)-400000) l))
theorem Z8 {α:Type} {p q:α→Bool}:∀(l:List α),(∀x∈l,p x=true→q x=true)→l.countP p≤l.countP q
 | [],_=>Nat.le_refl _
 | a::l,h=>by
  have ih:=Z8 l fun x hx=>h x (by simp [hx]);have ha:=h a (by simp);rw [List.countP_cons,List.countP_cons]
  split
  ·rw [if_pos (ha (by assumption))];omega
  ·split<;>omega
theorem Z9 {α:Type} {p q:α→Bool}:∀(l:List α),(∀x∈l,p x=true→q x=true)→(∃x∈l,q x=true∧p x=false)→l.countP p<l.countP q
 | [],_,h=>by obtain ⟨x,hx,_⟩:=h;cases hx
 | a::l,h,he=>by
  have hl:=Z8 l fun x hx=>h x (by simp [hx]);have ha:=h a (by simp);rw [List.countP_cons,List.countP_cons];obtain ⟨x,hx,h1,h2⟩:=he;rcases List.mem_cons.1 hx with rfl|hx
  ·rw [h1,h2];simp;omega
  ·have:=Z9 l (fun x hx=>h x (by simp [hx])) ⟨x,hx,h1,h2⟩
   cases hp:p a with
   | true=>rw [ha hp];simp;omega
   | false=>simp;omega
theorem B0x {a b:List zA} (hs:∀z,mem z a→mem z b) (ha:Canon a) (hb:Good b) (hne:a≠b):vol a<vol b:=by
 refine Z9 _ (fun k _ hk=>?_) ?_
 ·simp only [decide_eq_true_eq] at hk ⊢;exact hs _ hk
 ·have:∃z,mem z b∧¬mem z a:=by
   apply Classical.byContradiction;intro hn;refine hne (Nx ha hb.1 fun z=>⟨hs z,fun hz=>?_⟩);apply Classical.byContradiction;intro h;exact hn ⟨z,hz,h⟩
  obtain ⟨z,h1,h2⟩:=this;have hz:=P3 hb.2 h1;have:=A84;refine ⟨(z+400000).toNat,List.mem_range.2 (by omega),?_,?_⟩
  ·have e:(((z+400000).toNat:Nat):Int)-400000=z:=by omega
   rw [e];simpa using h1
  ·have e:(((z+400000).toNat:Nat):Int)-400000=z:=by omega
   rw [e];simpa using h2
theorem B5t (l:List zA):vol l≤HN:=by
 have:vol l≤(List.range HN).length:=List.countP_le_length ..
 rwa [List.length_range] at this
abbrev Rays:=List M0
def gf (G:Rays):Fam:=fun p=>gt (G.getD p.1 []) p.2
def sf (G:Rays) (p:Pl) (x:List zA):Rays:=G.set p.1 ((G.getD p.1 []).set p.2 x)
def Shape (G:Rays) (n m:Nat):Prop:=G.length=n∧∀r∈G,r.length=m
def AllG (G:Rays):Prop:=∀r∈G,AllGood r
section
variable {G:Rays} {n m a:Nat} {p q:Pl} {x:List zA}
theorem A1v {α:Type} {l:List α} {i:Nat} {d:α} (h:i<l.length):l.getD i d∈l:=by
 rw [List.getD_eq_getElem?_getD,List.getElem?_eq_getElem h];exact List.getElem_mem h
theorem Shape.row (h:Shape G n m) (ha:a<n):(G.getD a []).length=m:=h.2 _ (A1v (by rw [h.1];exact ha))
theorem AllG.row (h:AllG G) (a:Nat):AllGood (G.getD a []):=by
 by_cases ha:a<G.length
 ·exact h _ (A1v ha)
 ·rw [List.getD_eq_getElem?_getD,List.getElem?_eq_none (by omega)];intro x hx;cases hx
theorem AllG.good (h:AllG G):Z0 (gf G):=fun p=>(h.row p.1).gt p.2
theorem AllG.sf (h:AllG G) (hx:Good x):AllG (sf G p x):=by
 intro r hr;rcases List.mem_or_eq_of_mem_set hr with h1|h1
 ·exact h r h1
 ·rw [h1];exact (h.row p.1).set p.2 hx
theorem Shape.sf (h:Shape G n m) (hp:p.1<n):Shape (sf G p x) n m:=by
 refine ⟨by unfold Proofs.YtbhjgebjojdohaaGreat.sf;rw [List.length_set];exact h.1,fun r hr=>?_⟩;rcases List.mem_or_eq_of_mem_set hr with h1|h1
 ·exact h.2 r h1
 ·rw [h1,List.length_set];exact h.row hp
theorem Ts {α:Type} {l:List α} {i j:Nat} {x d:α} (hi:i<l.length):(l.set i x).getD j d=if i=j then x else l.getD j d:=by
 rw [List.getD_eq_getElem?_getD,List.getD_eq_getElem?_getD,List.getElem?_set]
 by_cases h:i=j
 ·rw [if_pos h,if_pos h,if_pos hi];rfl
 ·rw [if_neg h,if_neg h]
theorem Vo (h:Shape G n m) (hp:p.1<n∧p.2<m):gf (sf G p x)=Ve (gf G) p x:=by
 funext q
 unfold gf sf Ve;rw [Ts (by rw [h.1];exact hp.1)]
 by_cases h1:p.1=q.1
 ·rw [if_pos h1,B48 (by rw [h.row hp.1];exact hp.2)]
  by_cases h2:p.2=q.2
  ·rw [if_pos h2,if_pos (Prod.ext h1.symm h2.symm)]
  ·rw [if_neg h2,if_neg (fun e=>h2 (by rw [e])),h1]
 ·rw [if_neg h1,if_neg (fun e=>h1 (by rw [e]))]
theorem A8w {A B:Rays} (hA:Shape A n m) (hB:Shape B n m) (h:∀p:Pl,p.1<n→p.2<m→gf A p=gf B p):A=B:=by
 apply List.ext_getElem (hA.1.trans hB.1.symm);intro i h1 h2;have hi:i<n:=by rw [←hA.1];exact h1
 have e1:A.getD i []=A[i]:=by rw [List.getD_eq_getElem?_getD,List.getElem?_eq_getElem h1];rfl
 have e2:B.getD i []=B[i]:=by rw [List.getD_eq_getElem?_getD,List.getElem?_eq_getElem h2];rfl
 rw [←e1,←e2];refine B47 ((hA.row hi).trans (hB.row hi).symm) fun j hj=>?_;rw [hA.row hi] at hj;exact h (i,j) hi hj
def Vol (G:Rays):Nat:=(G.map fun r=>(r.map vol).sum).sum
theorem A12 {α:Type} (f:α→Nat) (d:α):∀(l:List α) (i:Nat) (x:α),i<l.length→((l.set i x).map f).sum+f (l.getD i d)=(l.map f).sum+f x
 | [],i,x,h=>by simp at h
 | a::l,0,x,h=>by simp;omega
 | a::l,i+1,x,h=>by
  have:=A12 f d l i x (by simpa using h);simp only [List.set_cons_succ,List.map_cons,List.sum_cons,List.getD_cons_succ];omega
theorem A8a (h:Shape G n m) (hp:p.1<n∧p.2<m):Vol (sf G p x)+vol (gf G p)=Vol G+vol x:=by
 have h1:=A12 (fun r:M0=>(r.map vol).sum) [] G p.1 ((G.getD p.1 []).set p.2 x) (by rw [h.1];exact hp.1);have h2:=A12 vol [] (G.getD p.1 []) p.2 x (by rw [h.row hp.1];exact hp.2);have e1:(((G.getD p.1 []).getD p.2 []):List zA)=gf G p:=rfl;rw [e1] at h2;unfold Vol sf;omega
theorem A89 (h:Shape G n m):Vol G≤n*(m*HN):=by
 obtain ⟨h1,h2⟩:=h;subst h1;unfold Vol
 induction G with
 | nil=>simp
 | cons r G ih =>
  have hr:∀(l:M0),(l.map vol).sum≤l.length*HN:=by
   intro l
   induction l with
   | nil=>simp
   | cons a l ih=>have:=B5t a;simp only [List.map_cons,List.sum_cons,List.length_cons,Nat.add_mul,Nat.one_mul];omega
  have e:=hr r;rw [h2 r (by simp)] at e;have ih:=ih fun r hr=>h2 r (by simp [hr]);simp only [List.map_cons,List.sum_cons,List.length_cons,Nat.add_mul,Nat.one_mul];omega
end
section
variable (S:Rays) (br jp:Int)
def LA:Lnk:=fun p q d=>p.1=q.1∧p.1<S.length∧lk (S.getD p.1 []) br p.2 q.2∧d=jp*((q.2:Int)-p.2)
def fst (a i k:Nat):Prop:=1≤k∧(k:Int)≤br∧k<S.length∧ne (S.getD ((a+k)%S.length) []) i=true∧∀k',1≤k'→k'<k→ne (S.getD ((a+k')%S.length) []) i=false
def LO:Lnk:=fun p q d=>p.1<S.length∧ne (S.getD p.1 []) p.2=true∧p.2=q.2∧∃k,fst S br p.1 p.2 k∧q.1=(p.1+k)%S.length∧d=jp*(k:Int)
def LL:Lnk:=fun p q d=>LA S br jp p q d∨LO S br jp p q d
end
theorem A5n {S:M0} {i:Nat} (h:ne S i=true):i<S.length:=by
 apply Classical.byContradiction;intro hn;unfold ne gt at h;rw [List.getD_eq_getElem?_getD,List.getElem?_eq_none (by omega)] at h;simp at h
section
variable {S:Rays} {br jp:Int} {n m:Nat} {F:Nat}
theorem Ta (hS:Shape S n m) {p q:Pl} {d:Int} (h:LL S br jp p q d):p.1<n∧p.2<m∧q.1<n∧q.2<m∧p≠q:=by
 rcases h with ⟨h1,h2,h3,h4⟩|⟨h1,h2,h3,k,h4,h5,h6⟩
 ·rw [hS.1] at h2;have:=hS.row h2;have h5:=A5n h3.2.2.1;have h6:=h3.2.1;rw [this] at h5 h6;exact ⟨h2,h5,h1▸h2,h6,fun e=>by have:=h3.1;rw [e] at this;omega⟩
 ·have hn0:0<S.length:=by omega
  have h7:=A5n h2;rw [hS.1] at *;rw [hS.row h1] at h7;refine ⟨h1,h7,h5▸Nat.mod_lt _ hn0,h3▸h7,fun e=>?_⟩;have hk:=h4.1;have hk2:=h4.2.2.1;rw [hS.1] at hk2;have e1:p.1=(p.1+k)%n:=by rw [←h5,←e]
  by_cases hlt:p.1+k<n
  ·rw [Nat.mod_eq_of_lt hlt] at e1;omega
  ·rw [Nat.mod_eq_sub_mod (by omega),Nat.mod_eq_of_lt (by omega)] at e1;omega
theorem B3i (hS:Shape S n m) (hj:0≤jp∧jp≤400000) (hb:br≤16) {p q:Pl} {d:Int} (h:LL S br jp p q d):0≤d∧d≤1000000000:=by
 have key:∀c:Int,0≤c→c≤16→0≤jp*c∧jp*c≤1000000000:=by
  intro c h0 h1;have e1:=Int.mul_nonneg hj.1 h0;have e2:jp*c≤400000*16:=Int.mul_le_mul hj.2 h1 h0 (by omega);omega
 rcases h with ⟨h1,h2,h3,h4⟩|⟨h1,h2,h3,k,h4,h5,h6⟩
 ·rw [h4];have:=h3.1;have:=h3.2.2.2.2.2;exact key _ (by omega) (by omega)
 ·rw [h6];have:=h4.1;have:=h4.2.1;exact key _ (by omega) (by omega)
theorem Nq {β:Type} {G:Rays} {a:Nat} (ha:a<G.length) (k:M0→Option β):(Ak G (a:Int)).bind k=k (G.getD a []):=by
 rw [Bm [] (by omega),Int.toNat_natCast]
theorem B2c {β:Type} {a b:Nat} (hb:0<b) (k:Int→Option β):(V4 (a:Int) (b:Int)).bind k=k ((a%b:Nat):Int):=by
 unfold V4;rw [if_neg (by omega)];show k _=_
 congr 1
def plR (p:Pl):zT:=⟨(p.1:Int),(p.2:Int)⟩
def mkL (l:Pl×Pl×Int):zF:=⟨plR l.1,plR l.2.1,l.2.2⟩
theorem Uu (G:M0) (i:Nat):decide ((((gt G i).length:Nat):Int)>0)=ne G i:=by
 unfold ne;rw [Bool.eq_iff_iff];simp only [decide_eq_true_eq];omega
theorem A1a (hS:Shape S n m) (hn:n≤1000) (hm:m≤1000) (hj:0≤jp∧jp≤400000) (hb:br≤16) {a i:Nat} (ha:a<n) (hi:i<m) (hk:ne (S.getD a []) i=true) (k4:Int→List zF→Option (List zF)) (Y:List (Pl×Pl×Int)) (hY:Y.length≤10000000) :
  ∀(t N k:Nat),k+t=n→1≤k→t<N→(∀k',1≤k'→k'<k→ne (S.getD ((a+k')%n) []) i=false) →
  ∃Z,E2 S jp br (a:Int) (i:Int) k4 (Y.map mkL) N (k:Int)=F1 (i:Int) k4 ((Y++Z).map mkL)∧Z.length≤1∧∀p q d,(p,q,d)∈Z↔p=(a,i)∧LO S br jp p q d:=by
 have hnone:∀k:Nat,((k:Int)>br∨k≥n)→(∀k',1≤k'→k'<k→ne (S.getD ((a+k')%n) []) i=false)→∀p q d,¬(p=(a,i)∧LO S br jp p q d):=by
  rintro k hk1 hno p q d ⟨rfl,h1,h2,h3,k2,h4,h5,h6⟩;obtain ⟨g1,g2,g3,g4,g5⟩:=h4;rw [hS.1] at g3 g4;have:k2<k:=by omega
  rw [hno k2 g1 this] at g4
  cases g4
 intro t
 induction t with
 | zero =>
  intro N k hkt h1 hN hno;obtain ⟨N,rfl⟩:∃N',N=N'+1:=⟨N-1,by omega⟩;refine ⟨[],?_,by simp,fun p q d=>⟨fun h=>by simp at h,fun h=>absurd h (hnone k (.inr (by omega)) hno p q d)⟩⟩;show Ce S jp br (a:Int) (i:Int) k4 (Y.map mkL) (E2 S jp br (a:Int) (i:Int) k4 (Y.map mkL) N) (k:Int)=_;unfold Ce;have e:decide ((k:Int)<((S.length:Nat):Int))=false:=by rw [hS.1];simp;omega
  rw [e,List.append_nil];exact An rfl
 | succ t ih =>
  intro N k hkt h1 hN hno;obtain ⟨N,rfl⟩:∃N',N=N'+1:=⟨N-1,by omega⟩;have s1:E2 S jp br (a:Int) (i:Int) k4 (Y.map mkL) (N+1) (k:Int)=Ce S jp br (a:Int) (i:Int) k4 (Y.map mkL) (E2 S jp br (a:Int) (i:Int) k4 (Y.map mkL) N) (k:Int):=rfl;rw [s1];have e:decide ((k:Int)<((S.length:Nat):Int))=true:=by rw [hS.1];simp;omega
  by_cases hkb:(k:Int)≤br
  ·have e2:decide ((k:Int)≤br)=true:=by simpa using hkb
   have hrow:=hS.row ha;have hal:a<S.length:=by rw [hS.1];exact ha
   have hb2:(a+k)%n<S.length:=by rw [hS.1];exact Nat.mod_lt _ (by omega)
   have hrow2:=hS.row (a:=(a+k)%n) (by rw [hS.1] at hb2;exact hb2);have hjk:0≤jp*(k:Int)∧jp*(k:Int)≤1000000000:=by
    have e1:=Int.mul_nonneg hj.1 (Int.natCast_nonneg k);have e2:jp*(k:Int)≤400000*16:=Int.mul_le_mul hj.2 (by omega) (by omega) (by omega);omega
   have e3:((a:Int)+(k:Int))=((a+k:Nat):Int):=by omega
   cases hq:ne (S.getD ((a+k)%n) []) i with
   | true =>
    refine ⟨[((a,i),((a+k)%n,i),jp*(k:Int))],?_,by simp,fun p q d=>?_⟩
    ·unfold Ce;rw [e,e2,cond_true,Ap rfl,Nq hal,Q4 (by rw [hrow];exact hi),Uu,hk,Ap rfl,e3,ckb (by omega),hS.1,B2c (by omega),Nq hb2,Q4 (by rw [hrow2];exact hi),Uu,hq,Ap rfl,ckb (by omega),B2c (by omega),ckb (by omega),Jy (by simp;omega)];rw [List.map_append];rfl
    ·rw [List.mem_singleton];constructor
     ·intro h;simp only [Prod.mk.injEq] at h;obtain ⟨rfl,rfl,rfl⟩:=h;refine ⟨rfl,hal,hk,rfl,k,⟨h1,hkb,by rw [hS.1];omega,by rw [hS.1];exact hq,by rw [hS.1];exact hno⟩,by rw [hS.1],rfl⟩
     ·rintro ⟨rfl,g1,g2,g3,k2,g4,g5,g6⟩;have hk2:k2=k:=by
       obtain ⟨f1,f2,f3,f4,f5⟩:=g4;rw [hS.1] at f3 f4 f5;rcases Nat.lt_trichotomy k2 k with hlt|hlt|hlt
       ·have:=hno k2 f1 hlt;rw [this] at f4;cases f4
       ·exact hlt
       ·have:=f5 k h1 hlt;rw [this] at hq;cases hq
      subst hk2;obtain ⟨q1,q2⟩:=q;simp only at g3 g5;subst g3;rw [g5,g6,hS.1]
   | false =>
    obtain ⟨Z,z1,z2,z3⟩:=ih N (k+1) (by omega) (by omega) (by omega) (fun k' q1 q2=>by
     by_cases hkk:k'=k
     ·subst hkk;exact hq
     ·exact hno k' q1 (by omega))
    refine ⟨Z,?_,z2,z3⟩;rw [←z1];unfold Ce;rw [e,e2,cond_true,Ap rfl,Nq hal,Q4 (by rw [hrow];exact hi),Uu,hk,Ap rfl,e3,ckb (by omega),hS.1,B2c (by omega),Nq hb2,Q4 (by rw [hrow2];exact hi),Uu,hq,An rfl,ckb (by omega),Nl]
  ·have e2:decide ((k:Int)≤br)=false:=by simpa using hkb
   refine ⟨[],?_,by simp,fun p q d=>⟨fun h=>by simp at h,fun h=>absurd h (hnone k (.inl (by omega)) hno p q d)⟩⟩;unfold Ce;rw [e,e2,List.append_nil];exact An rfl
theorem A66 (hF:FF≤F) (hS:Shape S n m) (hn:n≤1000) (hm:m≤1000) (hj:0≤jp∧jp≤400000) (hb:br≤16) {a i:Nat} (ha:a<n) (hi:i<m) (k4:Int→List zF→Option (List zF)) (Y:List (Pl×Pl×Int)) (hY:Y.length≤10000000) :
  ∃Z,Gf F S jp br (a:Int) (i:Int) k4 (Y.map mkL)=F1 (i:Int) k4 ((Y++Z).map mkL)∧Z.length≤1∧∀p q d,(p,q,d)∈Z↔p=(a,i)∧LO S br jp p q d:=by
 unfold FF at hF;unfold Gf
 cases hk:ne (S.getD a []) i with
 | true=>exact A1a hS hn hm hj hb ha hi hk k4 Y hY (n-1) F 1 (by omega) (by omega) (by omega) (fun k' h1 h2=>by omega)
 | false =>
  refine ⟨[],?_,by simp,fun p q d=>⟨fun h=>by simp at h,?_⟩⟩
  ·obtain ⟨N,rfl⟩:∃N',F=N'+1:=⟨F-1,by omega⟩;show Ce S jp br (a:Int) (i:Int) k4 (Y.map mkL) (E2 S jp br (a:Int) (i:Int) k4 (Y.map mkL) N) 1=_;unfold Ce;have hrow:=hS.row ha;have hal:a<S.length:=by rw [hS.1];exact ha
   cases decide ((1:Int)<((S.length:Nat):Int)) with
   | false=>rw [List.append_nil];exact An rfl
   | true =>
    rw [cond_true]
    cases decide ((1:Int)≤br) with
    | false=>rw [List.append_nil];exact An rfl
    | true=>rw [Ap rfl,Nq hal,Q4 (by rw [hrow];exact hi),Uu,hk,An rfl,List.append_nil]
  ·rintro ⟨rfl,g1,g2,_⟩;rw [hk] at g2;cases g2
theorem A71 (hF:FF≤F) (hS:Shape S n m) (hn:n≤1000) (hm:m≤1000) (hj:0≤jp∧jp≤400000) (hb:br≤16) {a:Nat} (ha:a<n) (k2:List zF→Int→Option (List zF)) :
  ∀(t N i:Nat) (Y:List (Pl×Pl×Int)),i+t=m→t<N→Y.length+2*t≤10000000 →
  ∃Z,Da F S jp br (a:Int) k2 N (i:Int) (Y.map mkL)=Hv (a:Int) k2 ((Y++Z).map mkL)∧Z.length≤2*t∧∀p q d,(p,q,d)∈Z↔p.1=a∧i≤p.2∧LL S br jp p q d:=by
 have hal:a<S.length:=by rw [hS.1];exact ha
 have hrow:=hS.row ha;intro t
 induction t with
 | zero =>
  intro N i Y hit hN hY;obtain ⟨N,rfl⟩:∃N',N=N'+1:=⟨N-1,by omega⟩;refine ⟨[],?_,by simp,fun p q d=>⟨fun h=>by simp at h,?_⟩⟩
  ·show Ge F S jp br (a:Int) k2 (Da F S jp br (a:Int) k2 N) (i:Int) (Y.map mkL)=_;unfold Ge;rw [Nq hal,hrow,An (by simp;omega),List.append_nil]
  ·rintro ⟨h1,h2,h3⟩;have:=Ta hS h3;omega
 | succ t ih =>
  intro N i Y hit hN hY;obtain ⟨N,rfl⟩:∃N',N=N'+1:=⟨N-1,by omega⟩;have s1:Da F S jp br (a:Int) k2 (N+1) (i:Int) (Y.map mkL)=Ge F S jp br (a:Int) k2 (Da F S jp br (a:Int) k2 N) (i:Int) (Y.map mkL):=rfl;rw [s1];unfold Ge;rw [Nq hal,hrow,Ap (by simp;omega),Nq hal];obtain ⟨r,r1,r2⟩:=B1y (S:=S.getD a []) (br:=br) hF i (by rw [hrow];omega) (by rw [hrow];omega) hb;rw [r1,sb];have fin:∀(W:List (Pl×Pl×Int)),W.length≤1→(∀p q d,(p,q,d)∈W↔p=(a,i)∧LA S br jp p q d) →
    ∃Z,Gf F S jp br (a:Int) (i:Int) (Da F S jp br (a:Int) k2 N) ((Y++W).map mkL)=Hv (a:Int) k2 ((Y++Z).map mkL)∧Z.length≤2*(t+1)∧∀p q d,(p,q,d)∈Z↔p.1=a∧i≤p.2∧LL S br jp p q d:=by
   intro W w1 w2;obtain ⟨Z1,z1,z2,z3⟩:=A66 hF hS hn hm hj hb ha (i:=i) (by omega) (Da F S jp br (a:Int) k2 N) (Y++W) (by rw [List.length_append];omega);rw [z1];unfold F1;rw [ckb (by omega),Nl];obtain ⟨Z2,y1,y2,y3⟩:=ih N (i+1) (Y++W++Z1) (by omega) (by omega) (by simp only [List.length_append];omega);refine ⟨W++Z1++Z2,?_,by simp only [List.length_append];omega,fun p q d=>?_⟩
   ·rw [y1];simp only [List.append_assoc]
   ·rw [List.mem_append,List.mem_append,w2,z3,y3];constructor
    ·rintro ((⟨rfl,h⟩|⟨rfl,h⟩)|⟨h1,h2,h3⟩)
     ·exact ⟨rfl,Nat.le_refl _,.inl h⟩
     ·exact ⟨rfl,Nat.le_refl _,.inr h⟩
     ·exact ⟨h1,by omega,h3⟩
    ·rintro ⟨h1,h2,h3⟩
     by_cases hpi:p.2=i
     ·have hp:p=(a,i):=Prod.ext h1 hpi;rcases h3 with h3|h3
      ·exact .inl (.inl ⟨hp,h3⟩)
      ·exact .inl (.inr ⟨hp,h3⟩)
     ·exact .inr ⟨h1,by omega,h3⟩
  rcases r2 with ⟨k,hk,rfl⟩|⟨rfl,hk⟩
  ·have hki:0≤jp*((k:Int)-i)∧jp*((k:Int)-i)≤1000000000:=B72 hj hb hk;have hkl:=hk.2.1;have hik:=hk.1;rw [hrow] at hkl;rw [Ap (by simp),ckb (by omega),ckb (by omega),Jy (by simp;omega)];have:=fin [((a,i),(a,k),jp*((k:Int)-i))] (by simp) (fun p q d=>by
    rw [List.mem_singleton];constructor
    ·intro h;simp only [Prod.mk.injEq] at h;obtain ⟨rfl,rfl,rfl⟩:=h;exact ⟨rfl,rfl,hal,hk,rfl⟩
    ·rintro ⟨rfl,h1,h2,h3,h4⟩;obtain ⟨q1,q2⟩:=q;simp only at h1 h3 h4;subst h1;have:=A9j h3 hk;subst this;rw [h4])
   rw [List.map_append] at this;exact this
  ·rw [An (by simp)];have:=fin [] (by simp) (fun p q d=>⟨fun h=>by simp at h,fun ⟨e,h1,h2,h3,h4⟩=>by subst e;exact absurd h3 (hk _)⟩);rw [List.append_nil] at this;exact this
theorem A70 (hF:FF≤F) (hS:Shape S n m) (hn:n≤1000) (hm:m≤1000) (hj:0≤jp∧jp≤400000) (hb:br≤16) :
  ∀(t N a:Nat) (Y:List (Pl×Pl×Int)),a+t=n→t<N→Y.length+t*(2*m)≤9000000 →
  ∃Z,E0 F S jp br N (Y.map mkL) (a:Int)=some ((Y++Z).map mkL)∧Z.length≤t*(2*m)∧∀p q d,(p,q,d)∈Z↔a≤p.1∧LL S br jp p q d:=by
 intro t
 induction t with
 | zero =>
  intro N a Y hat hN hY;obtain ⟨N,rfl⟩:∃N',N=N'+1:=⟨N-1,by omega⟩;refine ⟨[],?_,by simp,fun p q d=>⟨fun h=>by simp at h,?_⟩⟩
  ·show Gd F S jp br (E0 F S jp br N) (Y.map mkL) (a:Int)=_;unfold Gd;rw [hS.1,An (by simp;omega),List.append_nil];rfl
  ·rintro ⟨h1,h2⟩;have:=Ta hS h2;omega
 | succ t ih =>
  intro N a Y hat hN hY;obtain ⟨N,rfl⟩:∃N',N=N'+1:=⟨N-1,by omega⟩;have s1:E0 F S jp br (N+1) (Y.map mkL) (a:Int)=Gd F S jp br (E0 F S jp br N) (Y.map mkL) (a:Int):=rfl;rw [s1];unfold Gd;rw [hS.1,Ap (by simp;omega)];have hF':=hF;unfold FF at hF';rw [Nat.add_mul] at hY;obtain ⟨Z1,z1,z2,z3⟩:=A71 hF hS hn hm hj hb (a:=a) (by omega) (E0 F S jp br N) m F 0 Y (by omega) (by omega) (by omega);rw [show ((0:Nat):Int)=0 from rfl] at z1;rw [z1];unfold Hv;rw [ckb (by omega),Nl];obtain ⟨Z2,y1,y2,y3⟩:=ih N (a+1) (Y++Z1) (by omega) (by omega) (by rw [List.length_append];omega);refine ⟨Z1++Z2,by rw [y1,List.append_assoc],by rw [List.length_append,Nat.add_mul];omega,fun p q d=>?_⟩;rw [List.mem_append,z3,y3];constructor
  ·rintro (⟨h1,h2,h3⟩|⟨h1,h2⟩)
   ·exact ⟨by omega,h3⟩
   ·exact ⟨by omega,h2⟩
  ·rintro ⟨h1,h2⟩
   by_cases hpa:p.1=a
   ·exact .inl ⟨hpa,by omega,h2⟩
   ·exact .inr ⟨by omega,h2⟩
theorem A9h (hF:FF≤F) (hS:Shape S n m) (hn:n≤1000) (hm:m≤1000) (hj:0≤jp∧jp≤400000) (hb:br≤16) :
  ∃Y:List (Pl×Pl×Int),Pq F S jp br=some (Y.map mkL)∧Y.length≤2000000∧∀p q d,(p,q,d)∈Y↔LL S br jp p q d:=by
 have hF':=hF;unfold FF at hF';have hnm:n*(2*m)≤1000*(2*1000):=Nat.mul_le_mul hn (by omega);obtain ⟨Z,z1,z2,z3⟩:=A70 hF hS hn hm hj hb n F 0 [] (by omega) (by omega) (by simp;omega);refine ⟨Z,z1,by omega,fun p q d=>?_⟩;rw [z3];exact ⟨fun h=>h.2,fun h=>⟨Nat.zero_le _,h⟩⟩
end
theorem W5 (a b:List zA) (hl:a.length=b.length) (hb:a.length≤1000000000):∀(n N i:Nat),i+n=a.length→n<N →
  H4 a b N (i:Int)=some (decide (a.drop i=b.drop i)):=by
 intro n
 induction n with
 | zero =>
  intro N i hi hN;obtain ⟨N,rfl⟩:∃N',N=N'+1:=⟨N-1,by omega⟩;show H3 a b (H4 a b N) (i:Int)=_;unfold H3;rw [An (by simp;omega),List.drop_eq_nil_of_le (by omega),List.drop_eq_nil_of_le (by omega)];rfl
 | succ n ih =>
  intro N i hi hN;obtain ⟨N,rfl⟩:∃N',N=N'+1:=⟨N-1,by omega⟩;show H3 a b (H4 a b N) (i:Int)=_;unfold H3;rw [Ap (by simp;omega),A5e (by omega),A5e (by omega),Bk (i:=i) (l:=a) (by omega) default,Bk (i:=i) (l:=b) (by omega) default];show (bif (!(((gx a i).Lo==(gx b i).Lo)&&(((gx a i).Hi==(gx b i).Hi)&&true))) then _ else _)=some (decide (gx a i::a.drop (i+1)=gx b i::b.drop (i+1)))
  by_cases he:gx a i=gx b i
  ·rw [he,An (by simp),ckb (by omega),Nl,ih N (i+1) (by omega) (by omega)]
   congr 1
   simp
  ·rw [Ap]
   ·congr 1
    simp [he]
   ·apply Classical.byContradiction;intro hn;apply he;simp only [Bool.not_eq_true,Bool.not_eq_false',Bool.and_eq_true,beq_iff_eq,and_true] at hn;obtain ⟨h1,h2⟩:=hn
    cases hx:gx a i;cases hy:gx b i
    rw [hx,hy] at h1 h2;simp only at h1 h2;rw [h1,h2]
theorem Sr {F:Nat} (hF:FF≤F) (a b:List zA) (ha:a.length≤1000000000):Ln F a b=some (decide (a=b)):=by
 unfold FF at hF;unfold Ln
 by_cases hl:a.length=b.length
 ·rw [An (by simp;omega)];exact W5 a b hl ha a.length F 0 (by omega) (by omega)
 ·rw [Ap (by simp;omega)]
  congr 1
  have:a≠b:=fun e=>hl (by rw [e]);simp [this]
theorem Ka (a b:List zA) (hl:a.length=b.length) (hb:a.length≤1000000000):∀(n N i:Nat),i+n=a.length→n<N →
  As a b N (i:Int)=some (decide (a.drop i=b.drop i)):=by
 intro n
 induction n with
 | zero =>
  intro N i hi hN;obtain ⟨N,rfl⟩:∃N',N=N'+1:=⟨N-1,by omega⟩;show Ar a b (As a b N) (i:Int)=_;unfold Ar;rw [An (by simp;omega),List.drop_eq_nil_of_le (by omega),List.drop_eq_nil_of_le (by omega)];rfl
 | succ n ih =>
  intro N i hi hN;obtain ⟨N,rfl⟩:∃N',N=N'+1:=⟨N-1,by omega⟩;show Ar a b (As a b N) (i:Int)=_;unfold Ar;rw [Ap (by simp;omega),A5e (by omega),A5e (by omega),Bk (i:=i) (l:=a) (by omega) default,Bk (i:=i) (l:=b) (by omega) default];show (bif (!(((gx a i).Lo==(gx b i).Lo)&&(((gx a i).Hi==(gx b i).Hi)&&true))) then _ else _)=some (decide (gx a i::a.drop (i+1)=gx b i::b.drop (i+1)))
  by_cases he:gx a i=gx b i
  ·rw [he,An (by simp),ckb (by omega),Nl,ih N (i+1) (by omega) (by omega)]
   congr 1
   simp
  ·rw [Ap]
   ·congr 1
    simp [he]
   ·apply Classical.byContradiction;intro hn;apply he;simp only [Bool.not_eq_true,Bool.not_eq_false',Bool.and_eq_true,beq_iff_eq,and_true] at hn;obtain ⟨h1,h2⟩:=hn
    cases hx:gx a i;cases hy:gx b i
    rw [hx,hy] at h1 h2;simp only at h1 h2;rw [h1,h2]
theorem Ku {F:Nat} (hF:FF≤F) (a b:List zA) (ha:a.length≤1000000000):B6 F a b=some (decide (a=b)):=by
 unfold FF at hF;unfold B6
 by_cases hl:a.length=b.length
 ·rw [An (by simp;omega)];exact Ka a b hl ha a.length F 0 (by omega) (by omega)
 ·rw [Ap (by simp;omega)]
  congr 1
  have:a≠b:=fun e=>hl (by rw [e]);simp [this]
section
variable {S:Rays} {br jp:Int} {n m:Nat} {F:Nat}
theorem B2m {β:Type} {G:Rays} {a:Nat} {x:M0} (ha:a<G.length) (k:Rays→Option β):(Gk G (a:Int) x).bind k=k (G.set a x):=by
 unfold Gk;rw [if_pos (by omega),sb,Int.toNat_natCast]
theorem B0n {α:Type} (l:List α) (a:Nat) (x y:α):(l.set a x).set a y=l.set a y:=List.set_set ..
theorem A69 (hF:FF≤F) (hS:Shape S n m) (hG:AllG S) (hn:n≤1000) (hm:m≤1000) {a:Nat} (ha:a<n) (k6:Rays→Int→Option Rays):∀(t N i:Nat) (G:Rays),i+t=m→t<N→G.length=n→G.getD a []=(S.getD a []).take i →
  Eo F S (a:Int) k6 N (i:Int) G=J2 (a:Int) k6 (G.set a (S.getD a [])):=by
 have hal:a<S.length:=by rw [hS.1];exact ha
 have hrow:=hS.row ha;intro t
 induction t with
 | zero =>
  intro N i G hi hN hl hg;obtain ⟨N,rfl⟩:∃N',N=N'+1:=⟨N-1,by omega⟩;show Em F S (a:Int) k6 (Eo F S (a:Int) k6 N) (i:Int) G=_;unfold Em;rw [Nq hal,hrow,An (by simp;omega)];have:G.set a (S.getD a [])=G:=by
   have e:S.getD a []=G[a]'(by omega):=by
    rw [List.take_of_length_le (by omega)] at hg;rw [←hg,List.getD_eq_getElem?_getD,List.getElem?_eq_getElem (by omega)];rfl
   rw [e];exact List.set_getElem_self _
  rw [this]
 | succ t ih =>
  intro N i G hi hN hl hg;obtain ⟨N,rfl⟩:∃N',N=N'+1:=⟨N-1,by omega⟩;show Em F S (a:Int) k6 (Eo F S (a:Int) k6 N) (i:Int) G=_;unfold Em;have hgood:=(hG.row a).gt i;have hlen:=hgood.len;have ht:((S.getD a []).take i).length=i:=by rw [List.length_take];omega
  rw [Nq hal,hrow,Ap (by simp;omega),Nq (by omega),Nq hal,Q4 (by omega),Nc hF hgood.1.2 (by omega),sb,B3f hgood.1,hg,Jy (by rw [ht];simp;omega),Nq (by omega),B2m (by omega),ckb (by omega),Nl];rw [ih N (i+1) _ (by omega) (by omega) (by rw [List.length_set];exact hl),B0n];rw [Ts (by omega),if_pos rfl];show (S.getD a []).take i++[gt (S.getD a []) i]=_;rw [List.take_add_one]
  congr 1
  unfold gt;rw [List.getD_eq_getElem?_getD,List.getElem?_eq_getElem (by omega)];rfl
theorem A3c (hF:FF≤F) (hS:Shape S n m) (hG:AllG S) (hn:n≤1000) (hm:m≤1000) (y6:List zF):∀(t N a:Nat) (G:Rays),a+t=n→t<N→G.length=n→(∀b<a,G.getD b []=S.getD b [])→(∀b,a≤b→b<n→G.getD b []=[]) →
  Dn F S y6 N G (a:Int)=J1 F y6 S:=by
 intro t
 induction t with
 | zero =>
  intro N a G ha hN hl h1 h2;obtain ⟨N,rfl⟩:∃N',N=N'+1:=⟨N-1,by omega⟩;show El F S y6 (Dn F S y6 N) G (a:Int)=_;unfold El;rw [hS.1,An (by simp;omega)];have:G=S:=by
   apply List.ext_getElem (hl.trans hS.1.symm);intro i q1 q2;have:=h1 i (by omega);rw [List.getD_eq_getElem?_getD,List.getD_eq_getElem?_getD,List.getElem?_eq_getElem q1,List.getElem?_eq_getElem q2] at this;exact this
  rw [this]
 | succ t ih =>
  intro N a G ha hN hl h1 h2;obtain ⟨N,rfl⟩:∃N',N=N'+1:=⟨N-1,by omega⟩;show El F S y6 (Dn F S y6 N) G (a:Int)=_;unfold El;have hF':=hF;unfold FF at hF';have:=A69 hF hS hG hn hm (a:=a) (by omega) (Dn F S y6 N) m F 0 G (by omega) (by omega) hl (by rw [h2 a (Nat.le_refl _) (by omega)];rfl);rw [show ((0:Nat):Int)=0 from rfl] at this;rw [hS.1,Ap (by simp;omega),this];unfold J2;rw [ckb (by omega),Nl];refine ih N (a+1) _ (by omega) (by omega) (by rw [List.length_set];exact hl) (fun b hb=>?_) (fun b hb hbn=>?_)
  ·rw [Ts (by omega)]
   split
   ·rename_i e;rw [e]
   ·exact h1 b (by omega)
  ·rw [Ts (by omega),if_neg (by omega)];exact h2 b (by omega) hbn
structure Inv (S:Rays) (R:Lnk) (n m:Nat) (G:Rays):Prop where
 shape:Shape G n m
 good:AllG G
 below:Below (gf G) (gf S)
 most:∀h,Stable R h→Below h (gf S)→Below h (gf G)
theorem A0y (hG:Shape S n m) {p:Pl} (hp:p.1<n∧p.2<m):sf S p (gf S p)=S:=by
 refine A8w (hG.sf hp.1) hG fun q h1 h2=>?_;rw [Vo hG hp];unfold Ve
 split
 ·rename_i e;rw [e]
 ·rfl
theorem Inv.step {R:Lnk} {G:Rays} (h:Inv S R n m G) {p q:Pl} {d:Int} (hd:0≤d) (hq:q.1<n∧q.2<m) (hl:both R p q d):Inv S R n m (sf G q (nr (gf G q) (gf G p) d))∧(nr (gf G q) (gf G p) d≠gf G q→Vol (sf G q (nr (gf G q) (gf G p) d))<Vol G):=by
 have hg:=h.good.good;have hgood:Good (nr (gf G q) (gf G p) d):=(hg q).nr (hg p) hd;refine ⟨⟨h.shape.sf hq.1,h.good.sf hgood,?_,fun k hk hb=>?_⟩,fun hne=>?_⟩
 ·rw [Vo h.shape hq];exact (A22 hg hd).trans h.below
 ·rw [Vo h.shape hq];exact A9q hg hd hk (h.most k hk hb) hl
 ·have h1:=A8a (x:=nr (gf G q) (gf G p) d) h.shape hq;have h2:=B0x (a:=nr (gf G q) (gf G p) d) (b:=gf G q) (fun z hz=>((Pv (hg p).1.2 hd z).1 hz).1) hgood.1 (hg q) hne;omega
theorem A4u {R:Lnk} (G:Rays) (hG:Shape G n m) {p q:Pl} {d:Int} (hp:p.1<n∧p.2<m) (hq:q.1<n∧q.2<m) (u v:List zA) (k:Nat) (hk:k≤10000000) (c:Bool) (k4:Bool→Int→Rays→Option Rays) :
  G2 (k:Int) G k4 (mkL (p,q,d)) u v c=k4 c ((k+1:Nat):Int) (sf (sf G p u) q v):=by
 unfold G2;have hG2:=hG.sf (p:=p) (x:=u) hp.1;show ((Ak G (p.1:Int)).bind fun u6522=>(Ak G (q.1:Int)).bind fun u6530=>(Ak u6522 (p.2:Int)).bind fun u6538=>(Gk u6522 (p.2:Int) u).bind fun l6549=>(Gk G (p.1:Int) l6549).bind fun l6550=>(Ak l6550 (q.1:Int)).bind fun u6553=>(Ak u6553 (q.2:Int)).bind fun u6562=>(Gk u6553 (q.2:Int) v).bind fun l6654=>(Gk l6550 (q.1:Int) l6654).bind fun l6655=>(ck ((k:Int)+1)).bind fun x6658=>k4 c x6658 l6655)=_;have r1:(G.getD p.1 []).length=m:=hG.row hp.1;rw [Nq (by rw [hG.1];exact hp.1),Nq (by rw [hG.1];exact hq.1),Q4 (by rw [r1];exact hp.2),B5m (by rw [r1];exact hp.2),B2m (by rw [hG.1];exact hp.1)];have r2:((sf G p u).getD q.1 []).length=m:=hG2.row hq.1;show ((Ak (sf G p u) (q.1:Int)).bind fun u6553=>(Ak u6553 (q.2:Int)).bind fun u6562=>(Gk u6553 (q.2:Int) v).bind fun l6654=>(Gk (sf G p u) (q.1:Int) l6654).bind fun l6655=>(ck ((k:Int)+1)).bind fun x6658=>k4 c x6658 l6655)=_;rw [Nq (by rw [hG2.1];exact hq.1),Q4 (by rw [r2];exact hq.2),B5m (by rw [r2];exact hq.2),B2m (by rw [hG2.1];exact hq.1),ckb (by omega),Nl];rfl
theorem Zo (hF:FF≤F) {R:Lnk} (Y:List (Pl×Pl×Int)) (hY:Y.length≤2000000) (hYR:∀l∈Y,R l.1 l.2.1 l.2.2∧0≤l.2.2∧l.2.2≤1000000000∧l.1.1<n∧l.1.2<m∧l.2.1.1<n∧l.2.1.2<m∧l.1≠l.2.1) (k3:Bool→Rays→Option Rays) :
  ∀(t N k:Nat) (c:Bool) (G:Rays),k+t=Y.length→t<N→Inv S R n m G →
  ∃c' G',Bz F (Y.map mkL) k3 N c (k:Int) G=k3 c' G'∧Inv S R n m G'∧((c'=c∧G'=G∧∀l∈Y.drop k,A37 (gf G) l.1 l.2.1 l.2.2∧A37 (gf G) l.2.1 l.1 l.2.2)∨(c'=true∧Vol G'<Vol G)):=by
 intro t
 induction t with
 | zero =>
  intro N k c G hk hN hI;obtain ⟨N,rfl⟩:∃N',N=N'+1:=⟨N-1,by omega⟩;refine ⟨c,G,?_,hI,.inl ⟨rfl,rfl,fun l hl=>?_⟩⟩
  ·show Dm F (Y.map mkL) k3 (Bz F (Y.map mkL) k3 N) c (k:Int) G=_;unfold Dm;rw [An (by simp;omega)]
  ·rw [List.drop_eq_nil_of_le (by omega)] at hl;cases hl
 | succ t ih =>
  intro N k c G hk hN hI;obtain ⟨N,rfl⟩:∃N',N=N'+1:=⟨N-1,by omega⟩;have s1:Bz F (Y.map mkL) k3 (N+1) c (k:Int) G=Dm F (Y.map mkL) k3 (Bz F (Y.map mkL) k3 N) c (k:Int) G:=rfl;rw [s1];have hkl:k<Y.length:=by omega
  obtain ⟨⟨p,q,d⟩,hl⟩:∃l,Y[k]? = some l:=⟨Y[k],List.getElem?_eq_getElem hkl⟩;have hmem:(p,q,d)∈Y:=List.mem_of_getElem? hl;obtain ⟨y1,y2,y3,y4,y5,y6,y7,y8⟩:=hYR _ hmem;simp only at y1 y2 y3 y4 y5 y6 y7 y8;have hdrop:Y.drop k=(p,q,d)::Y.drop (k+1):=by
   rw [List.drop_eq_getElem_cons hkl]
   congr 1
   rw [List.getElem?_eq_getElem hkl] at hl;exact Option.some.inj hl
  have hg:=hI.good.good;have hu:Good (nr (gf G p) (gf G q) d):=(hg p).nr (hg q) y2;have hv:Good (nr (gf G q) (gf G p) d):=(hg q).nr (hg p) y2;have hget:Ak (Y.map mkL) (k:Int)=some (mkL (p,q,d)):=by
   unfold Ak;rw [if_pos (by omega),Int.toNat_natCast,List.getElem?_map,hl];rfl
  have key:Dm F (Y.map mkL) k3 (Bz F (Y.map mkL) k3 N) c (k:Int) G=Bz F (Y.map mkL) k3 N (if nr (gf G p) (gf G q) d=gf G p∧nr (gf G q) (gf G p) d=gf G q then c else true) ((k+1:Nat):Int) (sf (sf G p (nr (gf G p) (gf G q) d)) q (nr (gf G q) (gf G p) d)):=by
   unfold Dm;rw [Ap (by simp;omega),hget,sb];show ((Ak G (p.1:Int)).bind fun u6454=>(Ak u6454 (p.2:Int)).bind fun u6462=>(Ak G (q.1:Int)).bind fun u6469=>(Ak u6469 (q.2:Int)).bind fun u6477=>(J8 F u6477 d).bind fun y6485=>(H5 F u6462 y6485).bind fun y6489=>(J8 F u6462 d).bind fun y6493=>(H5 F u6477 y6493).bind fun y6516=>_)=_;rw [Nq (by rw [hI.shape.1];exact y4),Q4 (by rw [hI.shape.row y4];exact y5),Nq (by rw [hI.shape.1];exact y6),Q4 (by rw [hI.shape.row y6];exact y7)];refine (Vu hF (hg p) (hg q) ⟨y2,y3⟩ _).trans ?_;refine (Vu hF (hg q) (hg p) ⟨y2,y3⟩ _).trans ?_;have l1:=hu.len;have l2:=hv.len;rw [Sr hF _ _ (by omega),sb];show ((gd _ (Ln F (nr (gf G q) (gf G p) d) (gf G q)) default).bind fun y=>_)=_
   by_cases h1:nr (gf G p) (gf G q) d=gf G p
   ·have e1:decide (nr (gf G p) (gf G q) d=gt (G.getD p.1 []) p.2)=true:=decide_eq_true h1;rw [e1,gdT (g:=(!true)==false&&true) rfl,Sr hF _ _ (by omega),sb]
    by_cases h2:nr (gf G q) (gf G p) d=gf G q
    ·have e2:decide (nr (gf G q) (gf G p) d=gf G q)=true:=by simpa using h2
     rw [e2,if_pos ⟨h1,h2⟩];refine Eq.trans (An rfl) ?_;exact A4u (R:=R) G hI.shape ⟨y4,y5⟩ ⟨y6,y7⟩ _ _ k (by omega) _ _
    ·have e2:decide (nr (gf G q) (gf G p) d=gf G q)=false:=by simpa using h2
     rw [e2,if_neg (fun h=>h2 h.2)];refine Eq.trans (Ap rfl) ?_;exact A4u (R:=R) G hI.shape ⟨y4,y5⟩ ⟨y6,y7⟩ _ _ k (by omega) _ _
   ·have e1:decide (nr (gf G p) (gf G q) d=gt (G.getD p.1 []) p.2)=false:=decide_eq_false h1;rw [e1,gdF (g:=(!false)==false&&true) rfl,sb,if_neg (fun h=>h1 h.1)];refine Eq.trans (Ap rfl) ?_;exact A4u (R:=R) G hI.shape ⟨y4,y5⟩ ⟨y6,y7⟩ _ _ k (by omega) _ _
  rw [key];obtain ⟨i1,v1⟩:=hI.step (p:=q) (q:=p) y2 ⟨y4,y5⟩ (.inr y1);have hgq:gf (sf G p (nr (gf G p) (gf G q) d)) q=gf G q:=by
   rw [Vo hI.shape ⟨y4,y5⟩];unfold Ve;rw [if_neg (fun e=>y8 e.symm)]
  have hgp:gf (sf G p (nr (gf G p) (gf G q) d)) p=nr (gf G p) (gf G q) d:=by
   rw [Vo hI.shape ⟨y4,y5⟩];unfold Ve;rw [if_pos rfl]
  have i2:Inv S R n m (sf (sf G p (nr (gf G p) (gf G q) d)) q (nr (gf G q) (gf G p) d)):=by
   refine ⟨i1.shape.sf y6,i1.good.sf hv,?_,fun h hh hb=>?_⟩
   ·rw [Vo i1.shape ⟨y6,y7⟩];intro r z hz;unfold Ve at hz
    split at hz
    ·rename_i e;subst e
     exact hI.below _ z ((Pv (hg p).1.2 y2 z).1 hz).1
    ·exact i1.below r z hz
   ·rw [Vo i1.shape ⟨y6,y7⟩];intro r z hz;unfold Ve
    split
    ·rename_i e;subst e
     refine (Pv (hg p).1.2 y2 z).2 ⟨hI.most h hh hb _ z hz,?_⟩;obtain ⟨y,hy,h3⟩:=hh p r d (.inl y1) z hz;exact ⟨y,hI.most h hh hb _ y hy,h3⟩
    ·exact i1.most h hh hb r z hz
  have v2:nr (gf G q) (gf G p) d≠gf G q→Vol (sf (sf G p (nr (gf G p) (gf G q) d)) q (nr (gf G q) (gf G p) d))<Vol (sf G p (nr (gf G p) (gf G q) d)):=by
   intro hne;have h1:=A8a (p:=q) (x:=nr (gf G q) (gf G p) d) i1.shape ⟨y6,y7⟩;have h2:=B0x (a:=nr (gf G q) (gf G p) d) (b:=gf G q) (fun z hz=>((Pv (hg p).1.2 y2 z).1 hz).1) hv.1 (hg q) hne;rw [hgq] at h1;omega
  by_cases h1:nr (gf G p) (gf G q) d=gf G p
  ·have e1:sf G p (nr (gf G p) (gf G q) d)=G:=by rw [h1];exact A0y hI.shape ⟨y4,y5⟩
   by_cases h2:nr (gf G q) (gf G p) d=gf G q
   ·have e2:sf (sf G p (nr (gf G p) (gf G q) d)) q (nr (gf G q) (gf G p) d)=G:=by rw [e1,h2];exact A0y hI.shape ⟨y6,y7⟩
    rw [if_pos ⟨h1,h2⟩,e2];obtain ⟨c',G',g1,g2,g3⟩:=ih N (k+1) c G (by omega) (by omega) hI;refine ⟨c',G',g1,g2,?_⟩;rcases g3 with ⟨g3,g4,g5⟩|g3
    ·refine .inl ⟨g3,g4,fun l hl'=>?_⟩;rw [hdrop] at hl';rcases List.mem_cons.1 hl' with rfl|hl'
     ·exact ⟨(A0n hg y2).1 h2,(A0n hg y2).1 h1⟩
     ·exact g5 l hl'
    ·exact .inr g3
   ·rw [if_neg (fun h=>h2 h.2)];obtain ⟨c',G',g1,g2,g3⟩:=ih N (k+1) true _ (by omega) (by omega) i2;have v3:=v2 h2;rw [e1] at v3;refine ⟨c',G',g1,g2,.inr ?_⟩;rw [e1] at g3;rcases g3 with ⟨g3,g4,g5⟩|⟨g3,g4⟩
    ·exact ⟨g3,by rw [g4];exact v3⟩
    ·exact ⟨g3,by omega⟩
  ·rw [if_neg (fun h=>h1 h.1)];obtain ⟨c',G',g1,g2,g3⟩:=ih N (k+1) true _ (by omega) (by omega) i2;have v3:=v1 h1;have v4:Vol (sf (sf G p (nr (gf G p) (gf G q) d)) q (nr (gf G q) (gf G p) d))≤Vol (sf G p (nr (gf G p) (gf G q) d)):=by
    by_cases h2:nr (gf G q) (gf G p) d=gf G q
    ·have e3:=A0y i1.shape (p:=q) ⟨y6,y7⟩;rw [hgq] at e3;rw [h2,e3];exact Nat.le_refl _
    ·exact Nat.le_of_lt (v2 h2)
   refine ⟨c',G',g1,g2,.inr ?_⟩;rcases g3 with ⟨g3,g4,g5⟩|⟨g3,g4⟩
   ·exact ⟨g3,by rw [g4];omega⟩
   ·exact ⟨g3,by omega⟩
theorem B5a (hF:FF≤F) {R:Lnk} (Y:List (Pl×Pl×Int)) (hY:Y.length≤2000000) (hYR:∀l∈Y,R l.1 l.2.1 l.2.2∧0≤l.2.2∧l.2.2≤1000000000∧l.1.1<n∧l.1.2<m∧l.2.1.1<n∧l.2.1.2<m∧l.1≠l.2.1) (hRY:∀p q d,R p q d→(p,q,d)∈Y) :
  ∀(v:Nat) (N:Nat) (G:Rays),Vol G≤v→v+1<N→Inv S R n m G →
  ∃G',Cj F (Y.map mkL) N true G=some G'∧Inv S R n m G'∧Stable R (gf G'):=by
 have hF':=hF;unfold FF at hF';intro v
 induction v with
 | zero =>
  intro N G hv hN hI;obtain ⟨N,rfl⟩:∃N',N=N'+1:=⟨N-1,by omega⟩;show ∃G',Ek F (Y.map mkL) (Cj F (Y.map mkL) N) true G=some G'∧_;unfold Ek;rw [cond_true];obtain ⟨c',G',g1,g2,g3⟩:=Zo hF Y hY hYR (Cj F (Y.map mkL) N) Y.length F 0 false G (by omega) (by omega) hI;rw [show ((0:Nat):Int)=0 from rfl] at g1;rw [g1];rcases g3 with ⟨g3,g4,g5⟩|⟨g3,g4⟩
  ·obtain ⟨N,rfl⟩:∃N',N=N'+1:=⟨N-1,by omega⟩;subst g3 g4;refine ⟨G',rfl,g2,fun p q d hpq=>?_⟩;rw [List.drop_zero] at g5;rcases hpq with hpq|hpq
   ·exact (g5 _ (hRY p q d hpq)).1
   ·exact (g5 _ (hRY q p d hpq)).2
  ·omega
 | succ v ih =>
  intro N G hv hN hI;obtain ⟨N,rfl⟩:∃N',N=N'+1:=⟨N-1,by omega⟩;show ∃G',Ek F (Y.map mkL) (Cj F (Y.map mkL) N) true G=some G'∧_;unfold Ek;rw [cond_true];obtain ⟨c',G',g1,g2,g3⟩:=Zo hF Y hY hYR (Cj F (Y.map mkL) N) Y.length F 0 false G (by omega) (by omega) hI;rw [show ((0:Nat):Int)=0 from rfl] at g1;rw [g1];rcases g3 with ⟨g3,g4,g5⟩|⟨g3,g4⟩
  ·obtain ⟨N,rfl⟩:∃N',N=N'+1:=⟨N-1,by omega⟩;subst g3 g4;refine ⟨G',rfl,g2,fun p q d hpq=>?_⟩;rw [List.drop_zero] at g5;rcases hpq with hpq|hpq
   ·exact (g5 _ (hRY p q d hpq)).1
   ·exact (g5 _ (hRY q p d hpq)).2
  ·subst g3;exact ih N G' (by omega) (by omega) g2
def FS:Nat:=4000000000000
theorem Y7 (hF:FS≤F) (hS:Shape S n m) (hG:AllG S) (hn:n≤1000) (hm:m≤1000) (hj:0≤jp∧jp≤400000) (hb:br≤16) :
  ∃G,Jq F S jp br=some G∧Inv S (LL S br jp) n m G∧Stable (LL S br jp) (gf G):=by
 have hF2:FF≤F:=by unfold FS at hF;unfold FF;omega
 obtain ⟨Y,y1,y2,y3⟩:=A9h hF2 hS hn hm hj hb;unfold Jq;rw [y1,sb];have hmk:(mkI 24 ((S.length:Nat):Int) ([]:M0))=some (List.replicate n []):=by
  unfold mkI;rw [hS.1,if_pos (by omega),Int.toNat_natCast]
 rw [hmk,sb];have hF':=hF2;unfold FF at hF';have h1:=A3c hF2 hS hG hn hm (Y.map mkL) n F 0 (List.replicate n []) (by omega) (by omega) (by simp) (fun b hb=>by omega) (fun b h1 h2=>by
  rw [List.getD_eq_getElem?_getD,List.getElem?_replicate]
  split<;>rfl)
 rw [show ((0:Nat):Int)=0 from rfl] at h1;rw [h1];unfold J1;have hv:=A89 hS;have hh:n*(m*HN)≤1000*(1000*HN):=Nat.mul_le_mul hn (Nat.mul_le_mul hm (Nat.le_refl _));have:=A84;unfold FS at hF;refine B5a hF2 Y y2 (fun l hl=>?_) (fun p q d h=>(y3 p q d).2 h) (Vol S) F S (Nat.le_refl _) (by omega) ⟨hS,hG,Below.refl _,fun h _ hb=>hb⟩;have hL:=(y3 l.1 l.2.1 l.2.2).1 hl;have h2:=Ta hS hL;have h3:=B3i hS hj hb hL;exact ⟨hL,h3.1,h3.2,h2.1,h2.2.1,h2.2.2.1,h2.2.2.2.1,h2.2.2.2.2⟩
end
section
variable {κ ν:Type} [DecidableEq κ]
theorem A5l (B:List (κ×ν)) (x y:κ) (v:ν):lkM (upM B x v) y=if y=x then some v else lkM B y:=by
 induction B with
 | nil=>unfold upM lkM;split<;>rfl
 | cons p B ih =>
  unfold upM
  by_cases hx:x=p.1
  ·rw [if_pos hx];unfold lkM
   by_cases hy:y=x
   ·simp [hy]
   ·simp only [if_neg hy];rw [if_neg (by rw [←hx];exact hy)]
  ·rw [if_neg hx];unfold lkM
   by_cases hy:y=p.1
   ·rw [if_pos hy,if_pos hy,if_neg (fun e=>hx (by rw [←e,hy]))]
   ·rw [if_neg hy,if_neg hy,ih]
def keysNd (B:List (κ×ν)):Prop:=(B.map (·.1)).Nodup
theorem B2s (B:List (κ×ν)) (x:κ) (v:ν):∀k,k∈(upM B x v).map (·.1)↔k∈B.map (·.1)∨k=x:=by
 intro k
 induction B with
 | nil=>simp [upM]
 | cons p B ih =>
  unfold upM
  by_cases hx:x=p.1
  ·rw [if_pos hx];simp only [List.map_cons,List.mem_cons,hx];constructor
   ·rintro (h|h)
    ·exact .inr h
    ·exact .inl (.inr h)
   ·rintro ((h|h)|h)
    ·exact .inl h
    ·exact .inr h
    ·exact .inl h
  ·rw [if_neg hx];simp only [List.map_cons,List.mem_cons,ih];constructor
   ·rintro (h|h|h)
    ·exact .inl (.inl h)
    ·exact .inl (.inr h)
    ·exact .inr h
   ·rintro ((h|h)|h)
    ·exact .inl h
    ·exact .inr (.inl h)
    ·exact .inr (.inr h)
theorem B6z {B:List (κ×ν)} (h:keysNd B) (x:κ) (v:ν):keysNd (upM B x v):=by
 induction B with
 | nil=>simp [keysNd,upM]
 | cons p B ih =>
  unfold keysNd at h ⊢;rw [List.map_cons,List.nodup_cons] at h;unfold upM
  by_cases hx:x=p.1
  ·rw [if_pos hx,List.map_cons,List.nodup_cons];exact ⟨by rw [hx];exact h.1,h.2⟩
  ·rw [if_neg hx,List.map_cons,List.nodup_cons,B2s];exact ⟨fun hh=>hh.elim h.1 (fun e=>hx e.symm),ih h.2⟩
theorem B1s {B:List (κ×ν)} {y:κ} (h:y∉B.map (·.1)):lkM B y=none:=by
 induction B with
 | nil=>rfl
 | cons p B ih =>
  simp only [List.map_cons,List.mem_cons,not_or] at h;unfold lkM;rw [if_neg h.1,ih h.2]
theorem B1d (B:List (κ×ν)) (x k:κ) (h:k∈(Q1 B x).map (·.1)):k∈B.map (·.1):=by
 induction B with
 | nil=>exact h
 | cons p B ih =>
  unfold Q1 at h
  by_cases hx:x=p.1
  ·rw [if_pos hx] at h;simp [h]
  ·rw [if_neg hx,List.map_cons,List.mem_cons] at h;rw [List.map_cons,List.mem_cons];exact h.imp id ih
theorem B3v {B:List (κ×ν)} (h:keysNd B) (x:κ):keysNd (Q1 B x):=by
 induction B with
 | nil=>exact h
 | cons p B ih =>
  unfold keysNd at h ⊢;rw [List.map_cons,List.nodup_cons] at h;unfold Q1
  by_cases hx:x=p.1
  ·rw [if_pos hx];exact h.2
  ·rw [if_neg hx,List.map_cons,List.nodup_cons];exact ⟨fun hh=>h.1 (B1d B x _ hh),ih h.2⟩
theorem B4h {B:List (κ×ν)} (h:keysNd B) (x y:κ):lkM (Q1 B x) y=if y=x then none else lkM B y:=by
 induction B with
 | nil=>unfold Q1 lkM;split<;>rfl
 | cons p B ih =>
  have h':=h;unfold keysNd at h;rw [List.map_cons,List.nodup_cons] at h;unfold Q1
  by_cases hx:x=p.1
  ·rw [if_pos hx]
   by_cases hy:y=x
   ·rw [if_pos hy];exact B1s (by rw [hy,hx];exact h.1)
   ·rw [if_neg hy]
    conv=>rhs;unfold lkM
    rw [if_neg (by rw [←hx];exact hy)]
  ·rw [if_neg hx]
   conv=>lhs;unfold lkM
   by_cases hy:y=p.1
   ·rw [if_pos hy,if_neg (fun e=>hx (by rw [←e,hy]))];unfold lkM;rw [if_pos hy]
   ·rw [if_neg hy,ih h.2]
    conv=>rhs;unfold lkM
    rw [if_neg hy]
end
abbrev Bonds:=List (zB×List zJ)
def pl (p:Pl):zB:=⟨(p.1:Int),(p.2:Int)⟩
theorem Rg {p q:Pl} (h:pl p=pl q):p=q:=by
 unfold pl at h;simp only [zB.mk.injEq] at h;exact Prod.ext (by omega) (by omega)
def Bd (B:Bonds) (r:zB):List zJ:=(lkM B r).getD []
theorem B1r (F:Nat) (W:Rays) (B:Bonds) {p q:zB} (hpq:p≠q) (d:Int) (h1:(Bd B p).length≤100000000) (h2:(Bd B q).length≤100000000) :
  ∃B',Dz F ⟨W,B⟩ p q d=some ⟨W,B'⟩∧∀r,Bd B' r=if r=p then Bd B p++[⟨q,d⟩] else if r=q then Bd B q++[⟨p,d⟩] else Bd B r:=by
 unfold Dz;unfold Bd at h1 h2;have e:lkM (upM B p ((lkM B p).getD []++[(⟨q,d⟩:zJ)])) q=lkM B q:=by rw [A5l,if_neg (fun e=>hpq e.symm)]
 show ∃B',((apd 24 ((lkM B p).getD []) [(⟨q,d⟩:zJ)]).bind fun l23=>(apd 24 ((lkM (upM B p l23) q).getD []) [(⟨p,d⟩:zJ)]).bind fun l67=>some (⟨W,upM (upM B p l23) q l67⟩:zQ))=some ⟨W,B'⟩∧_;rw [Jy (by simp;omega),e,Jy (by simp;omega)];refine ⟨_,rfl,fun r=>?_⟩;unfold Bd;rw [A5l,A5l]
 by_cases hrq:r=q
 ·rw [if_pos hrq,if_neg (fun e=>hpq (by rw [←e,hrq])),if_pos hrq];rfl
 ·rw [if_neg hrq]
  by_cases hrp:r=p
  ·rw [if_pos hrp,if_pos hrp];rfl
  ·rw [if_neg hrp,if_neg hrp,if_neg hrq]
structure WI (P:Lnk) (B:Bonds) (c:Nat):Prop where
 len:∀r,(Bd B r).length≤c
 iff:∀(p q:Pl) d,(⟨pl q,d⟩:zJ)∈Bd B (pl p)↔both P p q d
 form:∀r b,b∈Bd B r→∃p q:Pl,r=pl p∧b.to=pl q
def B14 (P:Lnk) (p q:Pl) (d:Int):Lnk:=fun a b e=>P a b e∨(a=p∧b=q∧e=d)
theorem WI.link {P:Lnk} {B:Bonds} {c:Nat} (h:WI P B c) (hc:c≤100000000) (F:Nat) (W:Rays) {p q:Pl} (hpq:p≠q) (d:Int):∃B',Dz F ⟨W,B⟩ (pl p) (pl q) d=some ⟨W,B'⟩∧WI (B14 P p q d) B' (c+1):=by
 have h1:=h.len (pl p);have h2:=h.len (pl q);obtain ⟨B',b1,b2⟩:=B1r F W B (fun e=>hpq (Rg e)) d (by omega) (by omega);refine ⟨B',b1,fun r=>?_,fun a b e=>?_,fun r b hb=>?_⟩
 ·have h3:=h.len r;rw [b2]
  split
  ·simp;omega
  ·split
   ·simp;omega
   ·omega
 ·rw [b2];have hi:=h.iff a b e;unfold both B14 at *
  by_cases hap:a=p
  ·subst hap;rw [if_pos rfl,List.mem_append,List.mem_singleton,hi];have hn:¬(a=q):=hpq;constructor
   ·rintro ((h|h)|h)
    ·exact .inl (.inl h)
    ·exact .inr (.inl h)
    ·simp only [zJ.mk.injEq] at h;exact .inl (.inr ⟨rfl,Rg h.1,h.2⟩)
   ·rintro ((h|⟨_,rfl,rfl⟩)|(h|⟨_,h,_⟩))
    ·exact .inl (.inl h)
    ·exact .inr rfl
    ·exact .inl (.inr h)
    ·exact absurd h hn
  ·rw [if_neg (fun e=>hap (Rg e))]
   by_cases haq:a=q
   ·subst haq;rw [if_pos rfl,List.mem_append,List.mem_singleton,hi];constructor
    ·rintro ((h|h)|h)
     ·exact .inl (.inl h)
     ·exact .inr (.inl h)
     ·simp only [zJ.mk.injEq] at h;exact .inr (.inr ⟨Rg h.1,rfl,h.2⟩)
    ·rintro ((h|⟨h,_⟩)|(h|⟨rfl,_,rfl⟩))
     ·exact .inl (.inl h)
     ·exact absurd h hap
     ·exact .inl (.inr h)
     ·exact .inr rfl
   ·rw [if_neg (fun e=>haq (Rg e)),hi];constructor
    ·rintro (h|h)
     ·exact .inl (.inl h)
     ·exact .inr (.inl h)
    ·rintro ((h|⟨h,_⟩)|(h|⟨_,h,_⟩))
     ·exact .inl h
     ·exact absurd h hap
     ·exact .inr h
     ·exact absurd h haq
 ·rw [b2] at hb
  split at hb
  ·rename_i e
   rcases List.mem_append.1 hb with hb|hb
   ·obtain ⟨a,b',e1,e2⟩:=h.form _ _ hb;exact ⟨p,b',e,e2⟩
   ·simp at hb;subst hb;exact ⟨p,q,e,rfl⟩
  ·split at hb
   ·rename_i e
    rcases List.mem_append.1 hb with hb|hb
    ·obtain ⟨a,b',e1,e2⟩:=h.form _ _ hb;exact ⟨q,b',e,e2⟩
    ·simp at hb;subst hb;exact ⟨q,p,e,rfl⟩
   ·exact h.form r b hb
theorem WI.same {P Q:Lnk} {B:Bonds} {c c':Nat} (h:WI P B c) (hc:c≤c') (hPQ:∀p q d,P p q d↔Q p q d):WI Q B c' :=
 ⟨fun r=>Nat.le_trans (h.len r) hc,fun p q d=>by rw [h.iff];unfold both;rw [hPQ,hPQ],h.form⟩
section
variable {S:Rays} {br jp:Int} {n m:Nat} {F:Nat}
theorem A4x (hS:Shape S n m) (hn:n≤1000) (hm:m≤1000) (hj:0≤jp∧jp≤400000) (hb:br≤16) {a i:Nat} (ha:a<n) (hi:i<m) (hk:ne (S.getD a []) i=true) (k5:Rays→Bonds→Int→Option zQ) (t0:Int) (W:Rays) {P:Lnk} {B:Bonds} {c:Nat} (hW:WI P B c) (hc:c≤10000000) :
  ∀(t N k:Nat),k+t=n→1≤k→t<N→(∀k',1≤k'→k'<k→ne (S.getD ((a+k')%n) []) i=false) →
  ∃B',Fv F S jp br (a:Int) t0 k5 (i:Int) W B N (k:Int)=Gz t0 k5 W B'∧WI (fun p q d=>P p q d∨(p=(a,i)∧LO S br jp p q d)) B' (c+1):=by
 have hnone:∀k:Nat,((k:Int)>br∨k≥n)→(∀k',1≤k'→k'<k→ne (S.getD ((a+k')%n) []) i=false)→∀p q d,¬(p=(a,i)∧LO S br jp p q d):=by
  rintro k hk1 hno p q d ⟨rfl,h1,h2,h3,k2,h4,h5,h6⟩;obtain ⟨g1,g2,g3,g4,g5⟩:=h4;rw [hS.1] at g3 g4;have:k2<k:=by omega
  rw [hno k2 g1 this] at g4
  cases g4
 intro t
 induction t with
 | zero =>
  intro N k hkt h1 hN hno;obtain ⟨N,rfl⟩:∃N',N=N'+1:=⟨N-1,by omega⟩;refine ⟨B,?_,hW.same (by omega) fun p q d=>⟨.inl,fun h=>h.elim id fun h=>absurd h (hnone k (.inr (by omega)) hno p q d)⟩⟩;show Gy F S jp br (a:Int) t0 k5 (i:Int) W B (Fv F S jp br (a:Int) t0 k5 (i:Int) W B N) (k:Int)=_;unfold Gy;rw [hS.1,ckb (by omega),An (by simp only [decide_eq_false_iff_not];split<;>omega)]
 | succ t ih =>
  intro N k hkt h1 hN hno;obtain ⟨N,rfl⟩:∃N',N=N'+1:=⟨N-1,by omega⟩;have s1:Fv F S jp br (a:Int) t0 k5 (i:Int) W B (N+1) (k:Int)=Gy F S jp br (a:Int) t0 k5 (i:Int) W B (Fv F S jp br (a:Int) t0 k5 (i:Int) W B N) (k:Int):=rfl;rw [s1];unfold Gy;rw [hS.1,ckb (by omega)]
  by_cases hkb:(k:Int)≤br
  ·rw [Ap (by simp only [decide_eq_true_eq];split<;>omega)];have hal:a<S.length:=by rw [hS.1];exact ha
   have hb2:(a+k)%n<n:=Nat.mod_lt _ (by omega);have hb3:(a+k)%n<S.length:=by rw [hS.1];exact hb2
   have hrow2:=hS.row hb2;have hjk:0≤jp*(k:Int)∧jp*(k:Int)≤1000000000:=by
    have e1:=Int.mul_nonneg hj.1 (Int.natCast_nonneg k);have e2:jp*(k:Int)≤400000*16:=Int.mul_le_mul hj.2 (by omega) (by omega) (by omega);omega
   have e3:((a:Int)+(k:Int))=((a+k:Nat):Int):=by omega
   rw [e3,ckb (by omega),B2c (by omega),Nq hb3,Q4 (by rw [hrow2];exact hi),Uu]
   cases hq:ne (S.getD ((a+k)%n) []) i with
   | true =>
    have hl:LO S br jp (a,i) ((a+k)%n,i) (jp*(k:Int)):=⟨hal,hk,rfl,k,⟨h1,hkb,by rw [hS.1];omega,by rw [hS.1];exact hq,by rw [hS.1];exact hno⟩,by rw [hS.1],rfl⟩;have hne:=(Ta (br:=br) (jp:=jp) hS (.inr hl)).2.2.2.2;obtain ⟨B',b1,b2⟩:=hW.link (by omega) F W hne (jp*(k:Int));refine ⟨B',?_,b2.same (Nat.le_refl _) fun p q d=>?_⟩
    ·rw [Ap rfl,ckb (by omega)];show ((Dz F ⟨W,B⟩ (pl (a,i)) (pl ((a+k)%n,i)) (jp*(k:Int))).bind fun y=>Gz t0 k5 y.sets y.bonds)=_;rw [b1,sb]
    ·unfold B14;constructor
     ·rintro (h|⟨rfl,rfl,rfl⟩)
      ·exact .inl h
      ·exact .inr ⟨rfl,hl⟩
     ·rintro (h|⟨rfl,g1,g2,g3,k2,g4,g5,g6⟩)
      ·exact .inl h
      ·have hk2:k2=k:=by
        obtain ⟨f1,f2,f3,f4,f5⟩:=g4;rw [hS.1] at f3 f4 f5;rcases Nat.lt_trichotomy k2 k with hlt|hlt|hlt
        ·have:=hno k2 f1 hlt;rw [this] at f4;cases f4
        ·exact hlt
        ·have:=f5 k h1 hlt;rw [this] at hq;cases hq
       subst hk2;refine .inr ⟨rfl,?_,g6⟩;rw [hS.1] at g5;exact Prod.ext g5 g3.symm
   | false =>
    rw [An rfl,ckb (by omega),Nl];exact ih N (k+1) (by omega) (by omega) (by omega) (fun k' q1 q2=>by
     by_cases hkk:k'=k
     ·subst hkk;exact hq
     ·exact hno k' q1 (by omega))
  ·rw [An (by simp only [decide_eq_false_iff_not];split<;>omega)];exact ⟨B,rfl,hW.same (by omega) fun p q d=>⟨.inl,fun h=>h.elim id fun h=>absurd h (hnone k (.inl (by omega)) hno p q d)⟩⟩
theorem B6d {T:M0} {u:Nat} (h0:0<u) (hu:u<(Kn T).length) {x y:Nat}:(lk T br x y∧y=kn T u)↔(x=kn T (u-1)∧y=kn T u∧((kn T u:Nat):Int)-(kn T (u-1):Nat)≤br):=by
 have hm1:=R0.1 (R7 hu).1;have hm0:=R0.1 (R7 (S:=T) (t:=u-1) (by omega)).1;have hlt:=A98 (S:=T) (t:=u-1) (u:=u) (by omega) hu;have hbt:∀x,kn T (u-1)<x→x<kn T u→ne T x=false:=fun x h1 h2=>B18 (S:=T) (t:=u-1) (by omega) h1 (by rw [show u-1+1=u by omega];exact h2);constructor
 ·rintro ⟨⟨g1,g2,g3,g4,g5,g6⟩,rfl⟩;have hx:x=kn T (u-1):=by
   rcases Nat.lt_trichotomy x (kn T (u-1)) with h|h|h
   ·have:=g5 _ h hlt;rw [this] at hm0;exact absurd hm0.2 (by simp)
   ·exact h
   ·have:=hbt x h g1;rw [this] at g3;cases g3
  subst hx;exact ⟨rfl,rfl,g6⟩
 ·rintro ⟨rfl,rfl,h3⟩;exact ⟨⟨hlt,hm1.1,hm0.2,hm1.2,hbt,h3⟩,rfl⟩
def QW (S:Rays) (br jp:Int) (a t:Nat):Lnk:=fun p q d=>p.1=a∧((LA S br jp p q d∧∃u,t≤u∧u<(Kn (S.getD a [])).length∧q.2=kn (S.getD a []) u)∨(LO S br jp p q d∧∃u,t≤u∧u<(Kn (S.getD a [])).length∧p.2=kn (S.getD a []) u))
theorem B2w (hF:FF≤F) (hS:Shape S n m) (hn:n≤1000) (hm:m≤1000) (hj:0≤jp∧jp≤400000) (hb:br≤16) {a:Nat} (ha:a<n) (k2:Rays→Bonds→Int→Option zQ) (W:Rays) :
  ∀(s N t:Nat) (P:Lnk) (B:Bonds) (c:Nat),t+s=(Kn (S.getD a [])).length→s<N→WI P B c→c+2*s≤10000000 →
  ∃B',Dq F S jp br (a:Int) k2 (S.getD a []) (toI (Kn (S.getD a []))) N W B (t:Int)=Fu F (a:Int) k2 (S.getD a []) W B'∧WI (fun p q d=>P p q d∨QW S br jp a t p q d) B' (c+2*s):=by
 have hal:a<S.length:=by rw [hS.1];exact ha
 have hrow:=hS.row ha;have hKn:=A03 (S:=S.getD a []);have hkl:(toI (Kn (S.getD a []))).length=(Kn (S.getD a [])).length:=by unfold toI;rw [List.length_map]
 have hF':=hF;unfold FF at hF';intro s
 induction s with
 | zero =>
  intro N t P B c hts hN hW hc;obtain ⟨N,rfl⟩:∃N',N=N'+1:=⟨N-1,by omega⟩;refine ⟨B,?_,hW.same (by omega) fun p q d=>⟨.inl,fun h=>h.elim id fun h=>?_⟩⟩
  ·show Gx F S jp br (a:Int) k2 (S.getD a []) (toI (Kn (S.getD a []))) (Dq F S jp br (a:Int) k2 (S.getD a []) (toI (Kn (S.getD a []))) N) W B (t:Int)=_;unfold Gx;rw [hkl,An (by simp only [decide_eq_false_iff_not];omega)]
  ·obtain ⟨_,⟨_,u,u1,u2,_⟩|⟨_,u,u1,u2,_⟩⟩:=h<;>omega
 | succ s ih =>
  intro N t P B c hts hN hW hc;obtain ⟨N,rfl⟩:∃N',N=N'+1:=⟨N-1,by omega⟩;have s1:Dq F S jp br (a:Int) k2 (S.getD a []) (toI (Kn (S.getD a []))) (N+1) W B (t:Int)=Gx F S jp br (a:Int) k2 (S.getD a []) (toI (Kn (S.getD a []))) (Dq F S jp br (a:Int) k2 (S.getD a []) (toI (Kn (S.getD a []))) N) W B (t:Int):=rfl;rw [s1];have htl:t<(Kn (S.getD a [])).length:=by omega
  have hkt:=R0.1 (R7 htl).1;rw [hrow] at hkt;have fin:∀(P1:Lnk) (B1:Bonds),WI P1 B1 (c+1)→(∀p q d,P1 p q d↔P p q d∨(p.1=a∧LA S br jp p q d∧q.2=kn (S.getD a []) t)) →
    ∃B',Jm F S jp br (a:Int) (t:Int) (Dq F S jp br (a:Int) k2 (S.getD a []) (toI (Kn (S.getD a []))) N) ((kn (S.getD a []) t:Nat):Int) W B1=Fu F (a:Int) k2 (S.getD a []) W B'∧WI (fun p q d=>P p q d∨QW S br jp a t p q d) B' (c+2*(s+1)):=by
   intro P1 B1 hW1 hP1;unfold Jm;obtain ⟨B2,b1,b2⟩:=A4x (F:=F) hS hn hm hj hb ha hkt.1 hkt.2 (Dq F S jp br (a:Int) k2 (S.getD a []) (toI (Kn (S.getD a []))) N) (t:Int) W hW1 (by omega) (n-1) F 1 (by omega) (by omega) (by omega) (fun k' h1 h2=>by omega);rw [show ((1:Nat):Int)=1 from rfl] at b1;rw [b1];unfold Gz;rw [ckb (by omega),Nl];obtain ⟨B3,c1,c2⟩:=ih N (t+1) _ B2 (c+1+1) (by omega) (by omega) b2 (by omega);refine ⟨B3,c1,c2.same (by omega) fun p q d=>?_⟩;rw [hP1];constructor
   ·rintro (((h|⟨h1,h2,h3⟩)|⟨rfl,h2⟩)|⟨h1,⟨h2,u,u1,u2,u3⟩|⟨h2,u,u1,u2,u3⟩⟩)
    ·exact .inl h
    ·exact .inr ⟨h1,.inl ⟨h2,t,Nat.le_refl _,htl,h3⟩⟩
    ·exact .inr ⟨rfl,.inr ⟨h2,t,Nat.le_refl _,htl,rfl⟩⟩
    ·exact .inr ⟨h1,.inl ⟨h2,u,by omega,u2,u3⟩⟩
    ·exact .inr ⟨h1,.inr ⟨h2,u,by omega,u2,u3⟩⟩
   ·rintro (h|⟨h1,⟨h2,u,u1,u2,u3⟩|⟨h2,u,u1,u2,u3⟩⟩)
    ·exact .inl (.inl (.inl h))
    ·by_cases hut:u=t
     ·subst hut;exact .inl (.inl (.inr ⟨h1,h2,u3⟩))
     ·exact .inr ⟨h1,.inl ⟨h2,u,by omega,u2,u3⟩⟩
    ·by_cases hut:u=t
     ·subst hut;exact .inl (.inr ⟨Prod.ext h1 u3,h2⟩)
     ·exact .inr ⟨h1,.inr ⟨h2,u,by omega,u2,u3⟩⟩
  unfold Gx;rw [hkl,Ap (by simp only [decide_eq_true_eq];omega),A90 htl]
  by_cases ht0:t=0
  ·subst ht0;have eg:((decide (((0:Nat):Int)>0))==true&&true)=false:=by simp
   rw [gdF eg,sb,gdF eg,sb,gdF eg,sb];rw [An (by simp)];refine fin P B (hW.same (by omega) fun _ _ _=>Iff.rfl) fun p q d=>⟨.inl,fun h=>h.elim id ?_⟩;rintro ⟨rfl,⟨h1,h2,h3,h4⟩,h5⟩;exfalso;have:=A8f (S:=S.getD p.1 []) (by omega) (by rw [←h5];exact h3.1);have h6:=h3.2.2.1;rw [this] at h6;cases h6
  ·have eg:((decide ((t:Int)>0))==true&&true)=true:=by simp;omega
   have e1:((t:Int)-1)=((t-1:Nat):Int):=by omega
   have hkp:=R0.1 (R7 (S:=S.getD a []) (t:=t-1) (by omega)).1;rw [hrow] at hkp;have hlt:=A98 (S:=S.getD a []) (t:=t-1) (u:=t) (by omega) htl;rw [gdT eg,ckb (by omega),e1,gdT eg,A90 (by omega),gdT eg,ckb (by omega)];have e2:decide ((t:Int)>0)=true:=by simp;omega
   rw [e2];have hlk:=fun {x y:Nat}=>B6d (br:=br) (T:=S.getD a []) (u:=t) (by omega) htl (x:=x) (y:=y)
   by_cases hd:((kn (S.getD a []) t:Nat):Int)-((kn (S.getD a []) (t-1):Nat):Int)≤br
   ·have e3:(bif true then (decide (((kn (S.getD a []) t:Nat):Int)-((kn (S.getD a []) (t-1):Nat):Int)≤br)) else false)=true:=by rw [cond_true];simpa using hd
    rw [e3];refine (congrArg (fun z=>∃B',z=Fu F (a:Int) k2 (S.getD a []) W B'∧WI (fun p q d=>P p q d∨QW S br jp a t p q d) B' (c+2*(s+1))) (Ap rfl)).mpr ?_;have hdj:0≤jp*(((kn (S.getD a []) t:Nat):Int)-((kn (S.getD a []) (t-1):Nat):Int))∧jp*(((kn (S.getD a []) t:Nat):Int)-((kn (S.getD a []) (t-1):Nat):Int))≤1000000000:=by
     have q1:=Int.mul_nonneg hj.1 (show (0:Int)≤((kn (S.getD a []) t:Nat):Int)-((kn (S.getD a []) (t-1):Nat):Int) by omega);have q2:jp*(((kn (S.getD a []) t:Nat):Int)-((kn (S.getD a []) (t-1):Nat):Int))≤400000*16:=Int.mul_le_mul hj.2 (by omega) (by omega) (by omega);omega
    have hne:((a,kn (S.getD a []) (t-1)):Pl)≠(a,kn (S.getD a []) t):=fun e=>by simp only [Prod.mk.injEq] at e;omega
    obtain ⟨B1,b1,b2⟩:=hW.link (by omega) F W hne (jp*(((kn (S.getD a []) t:Nat):Int)-((kn (S.getD a []) (t-1):Nat):Int)));rw [ckb (by omega),A90 (by omega),ckb (by omega),A90 (by omega),ckb (by omega),ckb (by omega)];have b1':Dz F { sets:=W,bonds:=B } { ray:=(a:Int),gate:=((kn (S.getD a []) (t-1):Nat):Int) } { ray:=(a:Int),gate:=((kn (S.getD a []) t:Nat):Int) } (jp*(((kn (S.getD a []) t:Nat):Int)-((kn (S.getD a []) (t-1):Nat):Int)))=some ⟨W,B1⟩:=b1;rw [b1',sb];refine fin _ B1 b2 fun p q d=>?_;unfold B14;constructor
    ·rintro (h|⟨rfl,rfl,rfl⟩)
     ·exact .inl h
     ·exact .inr ⟨rfl,⟨rfl,hal,(hlk.2 ⟨rfl,rfl,hd⟩).1,rfl⟩,rfl⟩
    ·rintro (h|⟨h0,⟨h1,h2,h3,h4⟩,h5⟩)
     ·exact .inl h
     ·rw [h0] at h3;obtain ⟨g1,g2,g3⟩:=hlk.1 ⟨h3,h5⟩;refine .inr ⟨Prod.ext h0 g1,Prod.ext (h1▸h0) g2,?_⟩;rw [h4,g1,g2]
   ·have e3:(bif true then (decide (((kn (S.getD a []) t:Nat):Int)-((kn (S.getD a []) (t-1):Nat):Int)≤br)) else false)=false:=by rw [cond_true];simpa using hd
    rw [e3];refine (congrArg (fun z=>∃B',z=Fu F (a:Int) k2 (S.getD a []) W B'∧WI (fun p q d=>P p q d∨QW S br jp a t p q d) B' (c+2*(s+1))) (An rfl)).mpr ?_;refine fin P B (hW.same (by omega) fun _ _ _=>Iff.rfl) fun p q d=>⟨.inl,fun h=>h.elim id ?_⟩;rintro ⟨h0,⟨h1,h2,h3,h4⟩,h5⟩;rw [h0] at h3;exact absurd (hlk.1 ⟨h3,h5⟩).2.2 hd
theorem B3l (hS:Shape S n m) {a:Nat} (p q:Pl) (d:Int):QW S br jp a 0 p q d↔p.1=a∧LL S br jp p q d:=by
 unfold QW LL;constructor
 ·rintro ⟨h,⟨h1,_⟩|⟨h1,_⟩⟩
  ·exact ⟨h,.inl h1⟩
  ·exact ⟨h,.inr h1⟩
 ·rintro ⟨rfl,h|h⟩
  ·obtain ⟨h1,h2,h3,h4⟩:=h;obtain ⟨u,u1,u2⟩:=Zf (S:=S.getD p.1 []) h3.2.1 h3.2.2.2.1;exact ⟨rfl,.inl ⟨⟨h1,h2,h3,h4⟩,u,Nat.zero_le _,u1,u2.symm⟩⟩
  ·have h2:=h.2.1;obtain ⟨u,u1,u2⟩:=Zf (S:=S.getD p.1 []) (A5n h2) h2;exact ⟨rfl,.inr ⟨h,u,Nat.zero_le _,u1,u2.symm⟩⟩
theorem B2v (hF:FF≤F) (hS:Shape S n m) (hn:n≤1000) (hm:m≤1000) (hj:0≤jp∧jp≤400000) (hb:br≤16) :
  ∀(t N a:Nat) (P:Lnk) (B:Bonds) (c:Nat),a+t=n→t<N→WI P B c→c+t*(2*m)≤9000000 →
  ∃B',Er F S jp br N (S.take a) B (a:Int)=some ⟨S,B'⟩∧WI (fun p q d=>P p q d∨(a≤p.1∧LL S br jp p q d)) B' (c+t*(2*m)):=by
 have hF':=hF;unfold FF at hF';intro t
 induction t with
 | zero =>
  intro N a P B c hat hN hW hc;obtain ⟨N,rfl⟩:∃N',N=N'+1:=⟨N-1,by omega⟩;refine ⟨B,?_,hW.same (by omega) fun p q d=>⟨.inl,fun h=>h.elim id fun h=>?_⟩⟩
  ·show Gw F S jp br (Er F S jp br N) (S.take a) B (a:Int)=_;unfold Gw;rw [hS.1,An (by simp;omega),List.take_of_length_le (by rw [hS.1];omega)];rfl
  ·have:=Ta hS h.2;omega
 | succ t ih =>
  intro N a P B c hat hN hW hc;obtain ⟨N,rfl⟩:∃N',N=N'+1:=⟨N-1,by omega⟩;have s1:Er F S jp br (N+1) (S.take a) B (a:Int)=Gw F S jp br (Er F S jp br N) (S.take a) B (a:Int):=rfl;rw [s1];have hal:a<S.length:=by rw [hS.1];omega
  have hrow:=hS.row (a:=a) (by omega);have hKn:=A03 (S:=S.getD a []);rw [Nat.add_mul] at hc;unfold Gw;rw [hS.1,Ap (by simp;omega),Nq hal,A1z hF (by rw [hrow];omega),sb];obtain ⟨B1,b1,b2⟩:=B2w hF hS hn hm hj hb (a:=a) (by omega) (Er F S jp br N) (S.take a) (Kn (S.getD a [])).length F 0 P B c (by omega) (by omega) hW (by omega);rw [show ((0:Nat):Int)=0 from rfl] at b1;rw [b1];unfold Fu Ba N7;have ht:(S.take a).length=a:=by rw [List.length_take];omega
  rw [Jy (by rw [hrow];simp;omega),sb,List.nil_append,Jy (by rw [ht];simp;omega),ckb (by omega),Nl];have e:S.take a++[S.getD a []]=S.take (a+1):=by
   rw [List.take_add_one]
   congr 1
   rw [List.getD_eq_getElem?_getD,List.getElem?_eq_getElem hal];rfl
  rw [e];obtain ⟨B2,c1,c2⟩:=ih N (a+1) _ B1 (c+2*m) (by omega) (by omega) (b2.same (by omega) fun _ _ _=>Iff.rfl) (by omega);refine ⟨B2,c1,c2.same (by rw [Nat.add_mul];omega) fun p q d=>?_⟩;rw [B3l hS];constructor
  ·rintro ((h|⟨h1,h2⟩)|⟨h1,h2⟩)
   ·exact .inl h
   ·exact .inr ⟨by omega,h2⟩
   ·exact .inr ⟨by omega,h2⟩
  ·rintro (h|⟨h1,h2⟩)
   ·exact .inl (.inl h)
   ·by_cases hpa:p.1=a
    ·exact .inl (.inr ⟨hpa,h2⟩)
    ·exact .inr ⟨by omega,h2⟩
theorem B0z (hF:FF≤F) (hS:Shape S n m) (hn:n≤1000) (hm:m≤1000) (hj:0≤jp∧jp≤400000) (hb:br≤16) :
  ∃B,Qk F S jp br=some ⟨S,B⟩∧WI (LL S br jp) B 9000000:=by
 have hF':=hF;unfold FF at hF';have hnm:n*(2*m)≤1000*(2*1000):=Nat.mul_le_mul hn (by omega);obtain ⟨B,b1,b2⟩:=B2v hF hS hn hm hj hb n F 0 (fun _ _ _=>False) [] 0 (by omega) (by omega) ⟨fun r=>by simp [Bd,lkM],fun p q d=>by simp [Bd,lkM,both],fun r b hb=>by simp [Bd,lkM] at hb⟩ (by omega);refine ⟨B,b1,b2.same (by omega) fun p q d=>⟨fun h=>h.elim False.elim fun h=>h.2,fun h=>.inr ⟨Nat.zero_le _,h⟩⟩⟩
end
theorem nb {α β:Type} {f:α→Option β}:(none:Option α).bind f=none:=rfl
abbrev Waits:=List (zB×Bool)
structure TI (B:Waits) (todo:List zB):Prop where
 nd:keysNd B
 inl:∀r,(lkM B r).getD false=true→r∈todo
theorem A60 (F:Nat) (r:zB) {B:Waits} {todo:List zB} (h:TI B todo) (hl:todo.length≤8000000000000):∃B' todo',Dp F r B todo=some (B',todo')∧TI B' todo'∧r∈todo'∧(∀x,x∈todo→x∈todo')∧(∀x,x∈todo'→x∈todo∨x=r)∧todo'.length≤todo.length+1:=by
 unfold Dp
 cases hb:(lkM B r).getD false with
 | true =>
  refine ⟨B,todo,An rfl,h,h.inl r hb,fun _ h=>h,fun _ h=>.inl h,by omega⟩
 | false =>
  refine ⟨upM B r true,todo++[r],?_,⟨B6z h.nd r true,fun x hx=>?_⟩,by simp,fun x hx=>by simp [hx],fun x hx=>by simpa using hx,by simp⟩
  ·refine (Ap rfl).trans ?_;rw [Jy (by simp;omega)]
  ·rw [A5l] at hx
   split at hx
   ·rename_i e;simp [e]
   ·simp [h.inl x hx]
section
variable {S:Rays} {br jp:Int} {n m:Nat} {F:Nat}
theorem A1b (hF:FF≤F) {a:Nat} {T:M0} (hT:T.length≤1000) (k6:List zB→Waits→Int→Option Rays) (x:Int):∀(s N t:Nat) (B:Waits) (todo:List zB),t+s=(Kn T).length→s<N→TI B todo→todo.length+s≤2000000 →
  ∃B' todo',Dw F (a:Int) k6 (toI (Kn T)) N todo B (t:Int)=K5 (a:Int) k6 todo' B'∧TI B' todo'∧(∀x,x∈todo→x∈todo')∧(∀u,t≤u→u<(Kn T).length→pl (a,kn T u)∈todo')∧(∀x,x∈todo'→x∈todo∨∃u,u<(Kn T).length∧x=pl (a,kn T u))∧todo'.length≤todo.length+s:=by
 have hkl:(toI (Kn T)).length=(Kn T).length:=by unfold toI;rw [List.length_map]
 have hKn:=A03 (S:=T);intro s
 induction s with
 | zero =>
  intro N t B todo hts hN hI hl;obtain ⟨N,rfl⟩:∃N',N=N'+1:=⟨N-1,by omega⟩;refine ⟨B,todo,?_,hI,fun _ h=>h,fun u h1 h2=>by omega,fun _ h=>.inl h,by omega⟩;show Ga F (a:Int) k6 (toI (Kn T)) (Dw F (a:Int) k6 (toI (Kn T)) N) todo B (t:Int)=_;unfold Ga;rw [hkl,An (by simp;omega)]
 | succ s ih =>
  intro N t B todo hts hN hI hl;obtain ⟨N,rfl⟩:∃N',N=N'+1:=⟨N-1,by omega⟩;have s1:Dw F (a:Int) k6 (toI (Kn T)) (N+1) todo B (t:Int)=Ga F (a:Int) k6 (toI (Kn T)) (Dw F (a:Int) k6 (toI (Kn T)) N) todo B (t:Int):=rfl;rw [s1];obtain ⟨B1,t1,w1,w2,w3,w4,w5,w6⟩:=A60 F (pl (a,kn T t)) hI (by omega);obtain ⟨B2,t2,g1,g2,g3,g4,g5,g6⟩:=ih N (t+1) B1 t1 (by omega) (by omega) w2 (by omega);refine ⟨B2,t2,?_,g2,fun x hx=>g3 x (w4 x hx),fun u h1 h2=>?_,fun x hx=>?_,by omega⟩
  ·rw [←g1];unfold Ga;rw [hkl,Ap (by simp;omega),A90 (by omega)];show ((Dp F (pl (a,kn T t)) B todo).bind fun y=>(ck ((t:Int)+1)).bind fun z=>Dw F (a:Int) k6 (toI (Kn T)) N y.2 y.1 z)=_;rw [w1,sb,ckb (by omega),Nl]
  ·by_cases hut:u=t
   ·subst hut;exact g3 _ w3
   ·exact g4 u (by omega) h2
  ·rcases g5 x hx with h|h
   ·rcases w5 x h with h|h
    ·exact .inl h
    ·exact .inr ⟨t,by omega,h⟩
   ·exact .inr h
theorem A68 (hF:FF≤F) (hS:Shape S n m) (hn:n≤1000) (hm:m≤1000) (y5:zQ):∀(t N a:Nat) (B:Waits) (todo:List zB),a+t=n→t<N→TI B todo→todo.length+t*m≤2000000→(∀x,x∈todo→∃p:Pl,x=pl p∧p.1<n∧p.2<m) →
  (∀p:Pl,p.1<a→ne (S.getD p.1 []) p.2=true→pl p∈todo) →
  ∃B' todo',Dv F S y5 N todo B (a:Int)=K4 F y5 todo' B'∧TI B' todo'∧(∀x,x∈todo'→∃p:Pl,x=pl p∧p.1<n∧p.2<m)∧(∀p:Pl,p.1<n→ne (S.getD p.1 []) p.2=true→pl p∈todo')∧todo'.length≤todo.length+t*m:=by
 have hF':=hF;unfold FF at hF';intro t
 induction t with
 | zero =>
  intro N a B todo hat hN hI hl hin hall;obtain ⟨N,rfl⟩:∃N',N=N'+1:=⟨N-1,by omega⟩;refine ⟨B,todo,?_,hI,hin,fun p h1 h2=>hall p (by omega) h2,by omega⟩;show G9 F S y5 (Dv F S y5 N) todo B (a:Int)=_;unfold G9;rw [hS.1,An (by simp;omega)]
 | succ t ih =>
  intro N a B todo hat hN hI hl hin hall;obtain ⟨N,rfl⟩:∃N',N=N'+1:=⟨N-1,by omega⟩;have s1:Dv F S y5 (N+1) todo B (a:Int)=G9 F S y5 (Dv F S y5 N) todo B (a:Int):=rfl;rw [s1];have hal:a<S.length:=by rw [hS.1];omega
  have hrow:=hS.row (a:=a) (by omega);have hKn:=A03 (S:=S.getD a []);rw [hrow] at hKn;rw [Nat.add_mul] at hl;obtain ⟨B1,t1,w1,w2,w3,w4,w5,w6⟩:=A1b hF (a:=a) (T:=S.getD a []) (by rw [hrow];exact hm) (Dv F S y5 N) 0 (Kn (S.getD a [])).length F 0 B todo (by omega) (by omega) hI (by omega);obtain ⟨B2,t2,g1,g2,g3,g4,g5⟩:=ih N (a+1) B1 t1 (by omega) (by omega) w2 (by omega) (fun x hx=>by
   rcases w5 x hx with h|⟨u,h1,h2⟩
   ·exact hin x h
   ·have:=(R0.1 (R7 h1).1).1;rw [hrow] at this;exact ⟨(a,kn (S.getD a []) u),h2,by show a<n;omega,this⟩) (fun p hp hne=>by
   by_cases hpa:p.1=a
   ·rw [hpa] at hne;obtain ⟨u,h1,h2⟩:=Zf (A5n hne) hne;have:=w4 u (Nat.zero_le _) h1;rw [h2,←hpa] at this;exact this
   ·exact w3 _ (hall p (by omega) hne))
  refine ⟨B2,t2,?_,g2,g3,g4,by rw [Nat.add_mul];omega⟩;rw [←g1];unfold G9;rw [hS.1,Ap (by simp;omega),Nq hal,A1z hF (by rw [hrow];omega),sb];rw [show ((0:Nat):Int)=0 from rfl] at w1;rw [w1];unfold K5;rw [ckb (by omega),Nl]
structure MI (S:Rays) (R:Lnk) (n m:Nat) (W:Rays) (todo:List zB) (B:Waits):Prop where
 inv:Inv S R n m W
 ti:TI B todo
 inr:∀x,x∈todo→∃p:Pl,x=pl p∧p.1<n∧p.2<m
theorem A4t (hF:FF≤F) {R:Lnk} (hR:∀p q d,both R p q d→0≤d∧d≤1000000000∧p.1<n∧p.2<m∧q.1<n∧q.2<m) {B0:Bonds} {c0:Nat} (hW0:WI R B0 c0) (hc0:c0≤9000000) (S0:Rays) (p:Pl) (hp:p.1<n∧p.2<m) (k3:List zB→Rays→Waits→Option Rays) :
  ∀(t N k:Nat) (W:Rays) (todo:List zB) (B:Waits),k+t=(Bd B0 (pl p)).length→t<N→MI S R n m W todo B→todo.length+t≤5000000000000 →
  (∀r q d,both R r q d→pl r∈todo∨A37 (gf W) r q d∨(r=p∧(⟨pl q,d⟩:zJ)∈(Bd B0 (pl p)).drop k)) →
  ∃W' todo' B',Bl F ⟨S0,B0⟩ k3 (pl p) N todo W B (k:Int)=k3 todo' W' B'∧MI S R n m W' todo' B'∧(∀r q d,both R r q d→pl r∈todo'∨A37 (gf W') r q d)∧todo'.length+Vol W'≤todo.length+Vol W:=by
 have hlen:=hW0.len (pl p);intro t
 induction t with
 | zero =>
  intro N k W todo B hk hN hM hl hs;obtain ⟨N,rfl⟩:∃N',N=N'+1:=⟨N-1,by omega⟩;refine ⟨W,todo,B,?_,hM,fun r q d h=>?_,Nat.le_refl _⟩
  ·show Ex F ⟨S0,B0⟩ k3 (pl p) (Bl F ⟨S0,B0⟩ k3 (pl p) N) todo W B (k:Int)=_;unfold Ex;refine An ?_;show decide ((k:Int)<(((Bd B0 (pl p)).length:Nat):Int))=false;simp;omega
  ·rcases hs r q d h with h|h|⟨_,h⟩
   ·exact .inl h
   ·exact .inr h
   ·rw [List.drop_eq_nil_of_le (by omega)] at h;cases h
 | succ t ih =>
  intro N k W todo B hk hN hM hl hs;obtain ⟨N,rfl⟩:∃N',N=N'+1:=⟨N-1,by omega⟩;have s1:Bl F ⟨S0,B0⟩ k3 (pl p) (N+1) todo W B (k:Int)=Ex F ⟨S0,B0⟩ k3 (pl p) (Bl F ⟨S0,B0⟩ k3 (pl p) N) todo W B (k:Int):=rfl;rw [s1];have hkl:k<(Bd B0 (pl p)).length:=by omega
  have hmem:(Bd B0 (pl p))[k]∈Bd B0 (pl p):=List.getElem_mem hkl;obtain ⟨p',q,e1,e2⟩:=hW0.form _ _ hmem;obtain ⟨d,hd⟩:∃d,(Bd B0 (pl p))[k]=⟨pl q,d⟩:=by
   refine ⟨(Bd B0 (pl p))[k].most,?_⟩;rw [←e2]
  rw [hd] at hmem;have hpq:both R p q d:=(hW0.iff p q d).1 hmem;obtain ⟨d1,d2,d3,d4,d5,d6⟩:=hR p q d hpq;have hdrop:(Bd B0 (pl p)).drop k=⟨pl q,d⟩::(Bd B0 (pl p)).drop (k+1):=by rw [List.drop_eq_getElem_cons hkl,hd]
  have hg:=hM.inv.good.good;have hnew:Good (nr (gf W q) (gf W p) d):=(hg q).nr (hg p) d1;have hold:=(hg q).len;have hget:Ak ((lkM B0 (pl p)).getD []) (k:Int)=some ⟨pl q,d⟩:=by
   show Ak (Bd B0 (pl p)) (k:Int)=_;unfold Ak;rw [if_pos (by omega),Int.toNat_natCast,List.getElem?_eq_getElem hkl,hd]
  have hsh:=hM.inv.shape;have key:Ex F ⟨S0,B0⟩ k3 (pl p) (Bl F ⟨S0,B0⟩ k3 (pl p) N) todo W B (k:Int) =
    if gf W q=nr (gf W q) (gf W p) d then Bl F ⟨S0,B0⟩ k3 (pl p) N todo W B ((k+1:Nat):Int)
    else (Dp F (pl q) B todo).bind fun y=>Bl F ⟨S0,B0⟩ k3 (pl p) N y.2 (sf W q (nr (gf W q) (gf W p) d)) y.1 ((k+1:Nat):Int):=by
   unfold Ex;have e3:decide ((k:Int)<((((lkM B0 (pl p)).getD []).length:Nat):Int))=true:=by
    show decide ((k:Int)<(((Bd B0 (pl p)).length:Nat):Int))=true;simp;omega
   refine (Ap e3).trans ?_;show ((Ak ((lkM B0 (pl p)).getD []) (k:Int)).bind _)=_;rw [hget,sb];show ((Ak W (q.1:Int)).bind fun u3280=>(Ak u3280 (q.2:Int)).bind fun u3288=>(Ak W (p.1:Int)).bind fun u3295=>(Ak u3295 (p.2:Int)).bind fun u3303=>(Ea F u3288 u3303 d).bind fun y3311=>(B6 F u3288 y3311).bind fun y3314 =>
    bif (!y3314) then ((Ak W (q.1:Int)).bind fun u3315=>(Ak u3315 (q.2:Int)).bind fun u3323=>(Gk u3315 (q.2:Int) y3311).bind fun l3334=>(Gk W (q.1:Int) l3334).bind fun l3335=>(Dp F (pl q) B todo).bind fun y3338=>Ey (k:Int) (Bl F ⟨S0,B0⟩ k3 (pl p) N) y3338.2 l3335 y3338.1) else (Ey (k:Int) (Bl F ⟨S0,B0⟩ k3 (pl p) N) todo W B))=_
   have r1:=hsh.row d5;have r2:=hsh.row d3;rw [Nq (by rw [hsh.1];exact d5),Q4 (by rw [r1];exact d6),Nq (by rw [hsh.1];exact d3),Q4 (by rw [r2];exact d4)];have hne:=B1x hF (hg q) (hg p) ⟨d1,d2⟩;have hne':Ea F (gt (W.getD q.1 []) q.2) (gt (W.getD p.1 []) p.2) d=some (nr (gf W q) (gf W p) d):=hne;rw [hne',sb,Ku hF _ _ (by show (gf W q).length≤_;omega),sb]
   by_cases he:gf W q=nr (gf W q) (gf W p) d
   ·have e4:decide (gt (W.getD q.1 []) q.2=nr (gf W q) (gf W p) d)=true:=decide_eq_true he;rw [e4,if_pos he];refine (An rfl).trans ?_;unfold Ey;rw [ckb (by omega),Nl]
   ·have e4:decide (gt (W.getD q.1 []) q.2=nr (gf W q) (gf W p) d)=false:=decide_eq_false he;rw [e4,if_neg he];unfold sf;refine (Ap rfl).trans ?_;rw [Nq (by rw [hsh.1];exact d5),Q4 (by rw [r1];exact d6),B5m (by rw [r1];exact d6),B2m (by rw [hsh.1];exact d5)];generalize Dp F (pl q) B todo=o
    cases o with
    | none=>rw [nb,nb]
    | some y =>
     rw [sb,sb];unfold Ey;rw [ckb (by omega),Nl]
  rw [key]
  by_cases he:gf W q=nr (gf W q) (gf W p) d
  ·rw [if_pos he];refine ih N (k+1) W todo B (by omega) (by omega) hM (by omega) fun r q' d' h=>?_;rcases hs r q' d' h with h|h|⟨h1,h2⟩
   ·exact .inl h
   ·exact .inr (.inl h)
   ·rw [hdrop] at h2;rcases List.mem_cons.1 h2 with h7|h7
    ·clear h2
     simp only [zJ.mk.injEq] at h7;have hq':=Rg h7.1;have hd':=h7.2
     clear h7
     subst hq' hd' h1;exact .inr (.inl ((A0n hg d1).1 he.symm))
    ·exact .inr (.inr ⟨h1,h7⟩)
  ·rw [if_neg he];obtain ⟨B1,t1,w1,w2,w3,w4,w5,w6⟩:=A60 F (pl q) hM.ti (by omega);rw [w1,sb];obtain ⟨i1,i2⟩:=hM.inv.step (p:=p) (q:=q) d1 ⟨d5,d6⟩ hpq;have hv:=i2 (fun e=>he e.symm);have hgf:=Vo (x:=nr (gf W q) (gf W p) d) hsh ⟨d5,d6⟩;obtain ⟨W',t',B',g1,g2,g3,g4⟩:=ih N (k+1) _ t1 B1 (by omega) (by omega) ⟨i1,w2,fun x hx=>by
    rcases w5 x hx with h|h
    ·exact hM.inr x h
    ·exact ⟨q,h,d5,d6⟩⟩ (by omega) (fun r q' d' h=>by
    by_cases hrq:r=q
    ·subst hrq;exact .inl w3
    ·have hsub:∀x:Pl,∀z,mem z (gf (sf W q (nr (gf W q) (gf W p) d)) x)→mem z (gf W x):=by rw [hgf];exact A22 hg d1
     have hsame:gf (sf W q (nr (gf W q) (gf W p) d)) r=gf W r:=by rw [hgf];unfold Ve;rw [if_neg hrq]
     rcases hs r q' d' h with h|h|⟨h1,h2⟩
     ·exact .inl (w4 _ h)
     ·refine .inr (.inl fun z hz=>?_);rw [hsame];exact h z (hsub q' z hz)
     ·rw [hdrop] at h2;rcases List.mem_cons.1 h2 with h7|h7
      ·clear h2
       simp only [zJ.mk.injEq] at h7;have hq':=Rg h7.1;have hd':=h7.2
       clear h7
       subst hq' hd' h1;refine .inr (.inl fun z hz=>?_);rw [hsame];rw [hgf] at hz;unfold Ve at hz;rw [if_pos rfl] at hz;exact ((Pv (hg r).1.2 d1 z).1 hz).2
      ·exact .inr (.inr ⟨h1,h7⟩))
   exact ⟨W',t',B',g1,g2,g3,by omega⟩
theorem A2t (hF:FF≤F) {R:Lnk} (hR:∀p q d,both R p q d→0≤d∧d≤1000000000∧p.1<n∧p.2<m∧q.1<n∧q.2<m) {B0:Bonds} {c0:Nat} (hW0:WI R B0 c0) (hc0:c0≤9000000) (S0:Rays) :
  ∀(v:Nat) (N:Nat) (W:Rays) (todo:List zB) (B:Waits),todo.length+Vol W≤v→v<N→v≤4000000000000→MI S R n m W todo B→(∀r q d,both R r q d→pl r∈todo∨A37 (gf W) r q d) →
  ∃G,Du F ⟨S0,B0⟩ N todo W B=some G∧Inv S R n m G∧Stable R (gf G):=by
 have hF':=hF;unfold FF at hF';intro v
 induction v with
 | zero =>
  intro N W todo B hv hN hV hM hs;obtain ⟨N,rfl⟩:∃N',N=N'+1:=⟨N-1,by omega⟩;have ht:todo=[]:=List.eq_nil_of_length_eq_zero (by omega);subst ht;refine ⟨W,?_,hM.inv,fun r q d h=>(hs r q d h).elim (fun h=>by cases h) id⟩
  show Ew F ⟨S0,B0⟩ (Du F ⟨S0,B0⟩ N) [] W B=_;unfold Ew;rw [An (by simp)];rfl
 | succ v ih =>
  intro N W todo B hv hN hV hM hs;obtain ⟨N,rfl⟩:∃N',N=N'+1:=⟨N-1,by omega⟩;have s1:Du F ⟨S0,B0⟩ (N+1) todo W B=Ew F ⟨S0,B0⟩ (Du F ⟨S0,B0⟩ N) todo W B:=rfl;rw [s1]
  cases todo with
  | nil =>
   refine ⟨W,?_,hM.inv,fun r q d h=>(hs r q d h).elim (fun h=>by cases h) id⟩
   unfold Ew;rw [An (by simp)];rfl
  | cons x rest =>
   obtain ⟨p,rfl,hp1,hp2⟩:=hM.inr x (by simp);have hlen:=hW0.len (pl p);simp only [List.length_cons] at hv;have hcut:A1i (pl p::rest) 1 (((pl p::rest).length:Nat):Int)=some rest:=by
    unfold A1i;rw [if_pos ⟨by omega,by simp only [List.length_cons];omega,Int.le_refl _⟩]
    congr 1
    show (rest.drop 0).take ((((pl p::rest).length:Nat):Int).toNat-1)=rest;rw [List.drop_zero,Int.toNat_natCast,List.length_cons];exact List.take_of_length_le (by omega)
   have hget:Ak (pl p::rest) 0=some (pl p):=rfl;unfold Ew;rw [Ap (by simp),hget,sb,hcut,sb];have hti:TI (Q1 B (pl p)) rest:=⟨B3v hM.ti.nd _,fun r hr=>by
    rw [B4h hM.ti.nd] at hr
    split at hr
    ·simp at hr
    ·rename_i hne
     rcases List.mem_cons.1 (hM.ti.inl r hr) with h|h
     ·exact absurd h hne
     ·exact h⟩
   obtain ⟨W',t',B',g1,g2,g3,g4⟩:=A4t (S:=S) hF hR hW0 hc0 S0 p ⟨hp1,hp2⟩ (Du F ⟨S0,B0⟩ N) (Bd B0 (pl p)).length F 0 W rest (Q1 B (pl p)) (by omega) (by omega) ⟨hM.inv,hti,fun x hx=>hM.inr x (by simp [hx])⟩ (by omega) (fun r q d h=>by
    rcases hs r q d h with h1|h1
    ·rcases List.mem_cons.1 h1 with h1|h1
     ·have:=Rg h1;subst this;exact .inr (.inr ⟨rfl,by rw [List.drop_zero];exact (hW0.iff r q d).2 h⟩)
     ·exact .inl h1
    ·exact .inr (.inl h1))
   rw [show ((0:Nat):Int)=0 from rfl] at g1;rw [g1];exact ih N W' t' B' (by omega) (by omega) (by omega) g2 g3
theorem A7t (hF:FS≤F) (hS:Shape S n m) (hG:AllG S) (hn:n≤1000) (hm:m≤1000) (hj:0≤jp∧jp≤400000) (hb:br≤16) :
  ∃G,Lr F S jp br=some G∧Inv S (LL S br jp) n m G∧Stable (LL S br jp) (gf G):=by
 have hF2:FF≤F:=by unfold FS at hF;unfold FF;omega
 obtain ⟨B0,b1,b2⟩:=B0z hF2 hS hn hm hj hb;unfold Lr;rw [b1,sb];have hF':=hF2;unfold FF at hF';have hnm:n*m≤1000*1000:=Nat.mul_le_mul hn hm;obtain ⟨B1,t1,w1,w2,w3,w4,w5⟩:=A68 hF2 hS hn hm ⟨S,B0⟩ n F 0 [] [] (by omega) (by omega) ⟨.nil,fun r hr=>by simp [lkM] at hr⟩ (by simp;omega) (fun x hx=>by cases hx) (fun p hp=>by omega)
 rw [show ((0:Nat):Int)=0 from rfl] at w1;rw [w1];unfold K4;have hR:∀p q d,both (LL S br jp) p q d→0≤d∧d≤1000000000∧p.1<n∧p.2<m∧q.1<n∧q.2<m:=by
  rintro p q d (h|h)
  ·have h1:=Ta hS h;have h2:=B3i hS hj hb h;exact ⟨h2.1,h2.2,h1.1,h1.2.1,h1.2.2.1,h1.2.2.2.1⟩
  ·have h1:=Ta hS h;have h2:=B3i hS hj hb h;exact ⟨h2.1,h2.2,h1.2.2.1,h1.2.2.2.1,h1.1,h1.2.1⟩
 have hv:=A89 hS;have hh:n*(m*HN)≤1000*(1000*HN):=Nat.mul_le_mul hn (Nat.mul_le_mul hm (Nat.le_refl _));have hHN:=A84;unfold FS at hF;simp only [List.length_nil] at w5;refine A2t hF2 hR b2 (by omega) S (t1.length+Vol S) F S t1 B1 (Nat.le_refl _) (by omega) (by omega) ⟨⟨hS,hG,Below.refl _,fun h _ hb=>hb⟩,w2,w3⟩ fun r q d h=>.inl ?_;have hne:∀p q d,LL S br jp p q d→ne (S.getD p.1 []) p.2=true∧ne (S.getD q.1 []) q.2=true:=by
  rintro p q d (⟨h1,h2,h3,h4⟩|⟨h1,h2,h3,k,h4,h5,h6⟩)
  ·exact ⟨h3.2.2.1,by rw [←h1];exact h3.2.2.2.1⟩
  ·exact ⟨h2,by rw [h5,←h3];exact h4.2.2.2.1⟩
 rcases h with h|h
 ·exact w4 r (Ta hS h).1 (hne _ _ _ h).1
 ·exact w4 r (Ta hS h).2.2.1 (hne _ _ _ h).2
theorem A0x (hF:FS≤F) (hS:Shape S n m) (hG:AllG S) (hn:n≤1000) (hm:m≤1000) (hj:0≤jp∧jp≤400000) (hb:br≤16) :
  ∃G,Lr F S jp br=some G∧Jq F S jp br=some G∧Inv S (LL S br jp) n m G∧Stable (LL S br jp) (gf G):=by
 obtain ⟨G,g1,g2,g3⟩:=A7t hF hS hG hn hm hj hb;obtain ⟨G',h1,h2,h3⟩:=Y7 hF hS hG hn hm hj hb;have:G'=G:=A8w h2.shape g2.shape fun p _ _=>Yx h2.good.good g2.good.good h3 g3 h2.below g2.below h2.most g2.most p;subst this;exact ⟨G',g1,h1,g2,g3⟩
end
theorem A54 (a b:zA):a.Lo≤(comm a b).Lo∧(comm a b).Hi≤a.Hi∧b.Lo≤(comm a b).Lo∧(comm a b).Hi≤b.Hi:=by
 unfold comm;simp only;refine ⟨?_,?_,?_,?_⟩<;>split<;>omega
def hit (t:zH) (w:Int) (s:zA) (v:Int):Prop:=∃k,-64≤k∧k≤64∧(spd t w s k).Lo≤v∧v≤(spd t w s k).Hi
section
variable {t:zH} {x:zE} {m w v:Int}
def gl (t:zH) (x:zE) (m:Int):List zC:=if t.Kind=1 then (Kf t x m 0).map (fun f=>⟨(f.whole,0),f.speed⟩) else (Kf t x m 0).flatMap (fun u=>(Kf t x m 1).filterMap (gg u))
theorem Xe:(gl t x m).length≤129*129:=by
 unfold gl
 split
 ·have:=Nh (t:=t) (x:=x) (m:=m) (w:=0);rw [List.length_map];omega
 ·exact A28
theorem B68 (F:Nat) (hF:2000≤F) (h:Fi t=0) (hs:∀w,inB (J4 x w) (-131072) 131072=true) (hm:1≤m∧m≤200000) (h0:¬Nw t x m 0) (h2:t.Kind≠1→¬Nw t x m 1):Fp F (pt t) x m=some (gl t x m,true):=by
 have ho:=Nh (t:=t) (x:=x) (m:=m) (w:=0);have ho1:=Nh (t:=t) (x:=x) (m:=m) (w:=1);have e1:∀{β:Type} (a b:β),(bif !(true:Bool) then a else b)=b:=fun _ _=>rfl;unfold Fp gl;rw [Hk,Wj F (by omega) ⟨h,.inl rfl⟩ hs hm,sb,if_neg (show ¬(isw t x m 0 (-64)=true∨isw t x m 0 64=true) from h0)];simp only [e1]
 by_cases h1:t.Kind=1
 ·rw [Ap (by simpa [pt] using h1),if_pos h1];have:=A25 (Kf t x m 0,true) (by simp;omega) (Kf t x m 0).length F 0 [] (by simp) (by omega) (by simp;omega);have h9:E7 (Kf t x m 0,true) F [] 0=_:=this;rw [h9];simp
 ·rw [An (by simpa [pt] using h1),if_neg h1];unfold Ja;rw [Hk,Wj F (by omega) ⟨h,.inr ⟨rfl,h1⟩⟩ hs hm,sb,if_neg (show ¬(isw t x m 1 (-64)=true∨isw t x m 1 64=true) from h2 h1)];have:=Yh F hF (Kf t x m 0,true) (Kf t x m 1,true) (by simp;omega) (by simp;omega) (Kf t x m 0).length F 0 [] (by simp) (by omega) (by simp;omega);have h9:Db F (Kf t x m 0,true) (Kf t x m 1,true) F [] 0=_:=this;rw [h9];simp
theorem A5f {g:zC} (h:g∈gl t x m):g.Speed.Lo≤g.Speed.Hi∧-m≤g.Speed.Lo∧g.Speed.Hi≤m:=by
 have hop:∀{w} {o:zL},o∈Kf t x m w→o.speed.Lo≤o.speed.Hi∧-m≤o.speed.Lo∧o.speed.Hi≤m:=by
  intro w o ho;obtain ⟨k,_,hk⟩:=List.mem_filterMap.1 ho;unfold og at hk
  split at hk
  ·rename_i hw
   cases hk
   unfold isw at hw;have:=of_decide_eq_true hw;have hc:=A54 (spd t w (J4 x w) k) ⟨-m,m⟩;unfold spw at this ⊢;simp only at hc ⊢;omega
  ·cases hk
 unfold gl at h
 split at h
 ·obtain ⟨o,ho,rfl⟩:=List.mem_map.1 h;exact hop ho
 ·obtain ⟨o,ho,h⟩:=List.mem_flatMap.1 h;obtain ⟨p,hp,h⟩:=List.mem_filterMap.1 h;unfold gg Mb at h
  split at h
  ·rename_i hw
   cases h
   have:=of_decide_eq_true hw;have h1:=hop ho;have h2:=hop hp;have hc:=A54 o.speed p.speed;simp only;omega
  ·cases h
end
section
variable {α β γ:Type}
theorem Nz {A B:List α} {y:α} {k:Nat} (h:A.length=k) (f:α→Option β):(Ak (A++y::B) (k:Int)).bind f=f y:=by
 subst h;unfold Ak;rw [if_pos (by omega),Int.toNat_natCast,List.getElem?_append_right (Nat.le_refl _),Nat.sub_self];rfl
theorem Pf {A B:List α} {y z:α} {k:Nat} (h:A.length=k) (f:List α→Option β):(Gk (A++y::B) (k:Int) z).bind f=f (A++z::B):=by
 subst h;unfold Gk;rw [if_pos (by simp;omega),Int.toNat_natCast,List.set_append_right _ _ (Nat.le_refl _),Nat.sub_self];rfl
theorem mkb {B:Nat} {n:Nat} {x:α} {f:List α→Option β} (h:B*n≤281474976710656) (h2:n≤1000000):(mkI B ((n:Nat):Int) x).bind f=f (List.replicate n x):=by
 unfold mkI;rw [if_pos ⟨by omega,by rw [Int.toNat_natCast];exact h,by omega⟩,Int.toNat_natCast];rfl
def PA (n m:Nat) (f:Nat→Nat→α) (a:Nat):List (List α):=(List.range a).map (fun b=>(List.range m).map (f b))++List.replicate (n-a) []
def PB (n m:Nat) (d:α) (f:Nat→Nat→α) (a i:Nat):List (List α):=(List.range a).map (fun b=>(List.range m).map (f b))++((List.range i).map (f a)++List.replicate (m-i) d)::List.replicate (n-(a+1)) []
def PC (n m:Nat) (f:Nat→Nat→α) (a i:Nat):List (List α):=(List.range a).map (fun b=>(List.range m).map (f b))++((List.range i).map (f a))::List.replicate (n-(a+1)) []
theorem A04 (n m:Nat) (f:Nat→Nat→α):PA n m f 0=List.replicate n []:=by simp [PA]
theorem A85 {n m a:Nat} (ha:a<n) (f:Nat→Nat→α):PA n m f a=(List.range a).map (fun b=>(List.range m).map (f b))++[]::List.replicate (n-(a+1)) []:=by
 unfold PA;rw [show n-a=(n-(a+1))+1 by omega,List.replicate_succ]
theorem A86 {n m a:Nat} (ha:a<n) (d:α) (f:Nat→Nat→α):PB n m d f a m=PA n m f (a+1):=by
 unfold PA PB;rw [Nat.sub_self,List.range_succ,List.map_append];simp
theorem B12 {n m a:Nat} (ha:a<n) (f:Nat→Nat→α):PA n m f a=PC n m f a 0:=A85 ha f
theorem B3j {n m a:Nat} (ha:a<n) (f:Nat→Nat→α):PC n m f a m=PA n m f (a+1):=by
 unfold PA PC;rw [List.range_succ,List.map_append];simp
theorem A5w {m i:Nat} (hi:i<m) (d:α) (f:Nat→α):(List.range i).map f++List.replicate (m-i) d=(List.range i).map f++d::List.replicate (m-(i+1)) d:=by
 rw [show m-i=(m-(i+1))+1 by omega,List.replicate_succ]
theorem A2j (m i:Nat) (d:α) (f:Nat→α):(List.range i).map f++f i::List.replicate (m-(i+1)) d=(List.range (i+1)).map f++List.replicate (m-(i+1)) d:=by
 rw [List.range_succ,List.map_append,List.append_assoc];rfl
theorem A36 (n m:Nat) (f:Nat→Nat→α):PA n m f n=(List.range n).map (fun b=>(List.range m).map (f b)):=by simp [PA]
theorem B35 {n m a:Nat} (ha:a<n) (f:Nat→Nat→α) (k:List α→Option β):(Ak ((List.range n).map (fun b=>(List.range m).map (f b))) (a:Int)).bind k=k ((List.range m).map (f a)):=by
 unfold Ak;rw [if_pos (by omega),Int.toNat_natCast,List.getElem?_map,List.getElem?_range ha];rfl
theorem B34 {m i:Nat} (hi:i<m) (f:Nat→α) (k:α→Option β):(Ak ((List.range m).map f) (i:Int)).bind k=k (f i):=by
 unfold Ak;rw [if_pos (by omega),Int.toNat_natCast,List.getElem?_map,List.getElem?_range hi];rfl
end
def Xk (set:List zA) (g:zC):Option zC :=
 if 0<(mt set [g.Speed]).length then some ⟨(g.Whole.1,g.Whole.2),⟨((mt set [g.Speed]).getD 0 default).Lo,((mt set [g.Speed]).getD ((mt set [g.Speed]).length-1) default).Hi⟩⟩ else none
def mkF (r:List zC):zK:=⟨if r.length=0 then 4 else if r.length=1 then 2 else 3,r⟩
def A9e (l:List zC) (set:List zA):zK:=mkF (l.filterMap (Xk set))
theorem A9f (r:List zC) (h:r.length≤1000000000):M9 r=some (mkF r):=by
 unfold M9 mkF
 match r,h with
 | [],_=>rfl
 | [a],_=>rfl
 | a::b::c,h =>
  have e:(if (((a::b::c).length:Nat):Int)<2 then (((a::b::c).length:Nat):Int) else 2)=((2:Nat):Int):=by
   rw [if_neg (by simp;omega)];rfl
  rw [e,if_neg (by simp),if_neg (by simp)];rfl
theorem A6z {F:Nat} (hF:FF≤F) {set:List zA} (hs:Good set) {l:List zC} (hl:l.length≤1000000) (hv:∀g∈l,g.Speed.Lo≤g.Speed.Hi):∀(n N i:Nat) (acc:List zC),i+n=l.length→n<N→acc.length+n≤1000000 →
  J7 F l set N (i:Int) acc=some (mkF (acc++(l.drop i).filterMap (Xk set))):=by
 intro n
 induction n with
 | zero =>
  intro N i acc hi hN ha;obtain ⟨N,rfl⟩:∃N',N=N'+1:=⟨N-1,by omega⟩;show J6 F l set (J7 F l set N) (i:Int) acc=_;unfold J6;rw [An (by simp;omega),List.drop_eq_nil_of_le (by omega),A9f _ (by omega)];simp
 | succ n ih =>
  intro N i acc hi hN ha;obtain ⟨N,rfl⟩:∃N',N=N'+1:=⟨N-1,by omega⟩;show J6 F l set (J7 F l set N) (i:Int) acc=_;unfold J6;have hm:l.getD i default∈l:=by rw [List.getD_eq_getElem?_getD,List.getElem?_eq_getElem (by omega:i<l.length)];exact List.getElem_mem _
  rw [Ap (by simp;omega),Bm default (by omega),Int.toNat_natCast,Bk (i:=i) (by omega) default];obtain ⟨g,hg⟩:∃g,l.getD i default=g:=⟨_,rfl⟩;rw [hg] at hm ⊢;have hgv:=hv g hm;have hlen:=hs.len;rw [A5m hF (by omega) (by simp) hs.1 ⟨List.pairwise_singleton _ _,by intro s h;simp at h;subst h;exact hgv⟩ hs.big,sb,List.filterMap_cons];have hmt:(mt set [g.Speed]).length≤400001:=(Good.mt (a:=set) (b:=[g.Speed]) hs).len;unfold Xk
  by_cases h0:0<(mt set [g.Speed]).length
  ·rw [Ap (by simpa using h0),Bm default (by omega),ckb (by omega),Bm default (by omega),if_pos h0,Jy (by simp;omega)];unfold Kd;rw [ckb (by omega)];have:=ih N (i+1) (acc++[⟨(g.Whole.1,g.Whole.2),⟨((mt set [g.Speed]).getD 0 default).Lo,((mt set [g.Speed]).getD ((mt set [g.Speed]).length-1) default).Hi⟩⟩]) (by omega) (by omega) (by simp;omega);rw [Int.natCast_add] at this;have e:((((mt set [g.Speed]).length:Nat):Int)-1).toNat=(mt set [g.Speed]).length-1:=by omega
   rw [e];refine Eq.trans this ?_;rw [List.append_assoc];rfl
  ·rw [An (by simpa using h0),if_neg h0];unfold Kd;rw [ckb (by omega)];have:=ih N (i+1) acc (by omega) (by omega) (by omega);rw [Int.natCast_add] at this;exact this
theorem B1p {F:Nat} (hF:FF≤F) {set:List zA} (hs:Good set) {l:List zC} (hl:l.length≤1000000) (hv:∀g∈l,g.Speed.Lo≤g.Speed.Hi):S1 F l set=some (A9e l set):=by
 have h1:=hF;unfold FF at h1;exact A6z hF hs hl hv l.length F 0 [] (by omega) (by omega) (by simp;omega)
section
variable {F:Nat} {t:zH} {s:zN} {mst jp br:Int} {n m:Nat}
def gX (s:zN) (a i:Nat):zE:=(s.Rays.getD a []).getD i default
def sX (t:zH) (s:zN) (mst:Int) (a i:Nat):List zA:=if (gX s a i).Kind=3 then un ((gl t (gX s a i) mst).map (·.Speed)) else []
def aX (t:zH) (s:zN) (mst:Int) (a i:Nat):List zC:=if (gX s a i).Kind=3 then gl t (gX s a i) mst else []
def SX (t:zH) (s:zN) (mst:Int) (n m:Nat):Rays:=(List.range n).map fun a=>(List.range m).map (sX t s mst a)
theorem Zx {x:zE} (hm:1≤mst∧mst≤200000):Good (un ((gl t x mst).map (·.Speed)))∧valid ((gl t x mst).map (·.Speed))∧Lq 200000 ((gl t x mst).map (·.Speed)):=by
 have hv:valid ((gl t x mst).map (·.Speed)):=by
  intro p hp;obtain ⟨g,hg,rfl⟩:=List.mem_map.1 hp;exact (A5f hg).1
 have hw:Lq 200000 ((gl t x mst).map (·.Speed)):=by
  intro p hp;obtain ⟨g,hg,rfl⟩:=List.mem_map.1 hp;have:=A5f hg;omega
 exact ⟨⟨Pk hv,Nd (Pk hv).2 fun z hz=>P3 hw ((Vc hv z).1 hz)⟩,hv,hw⟩
theorem B2k (hm:1≤mst∧mst≤200000) (a i:Nat):Good (sX t s mst a i):=by
 unfold sX
 split
 ·exact (Zx hm).1
 ·exact Xf
theorem A2u (x17831:Int) (S:List (List (List zA))) (x19851:Int) (k9:List (List (List zA))→List (List (List zC))→Int→Option (List (List zK)×Int)) (y:List zC×Bool) (hy:y.1.length≤1000000) (A:List (List (List zC))) :
  ∀(q N i:Nat) (acc:List zA),i+q=y.1.length→q<N→acc.length+q≤1000000→F5 F x17831 S x19851 k9 y A N (i:Int) acc=J9 F x17831 S x19851 k9 A (acc++(y.1.drop i).map (·.Speed)):=by
 intro q
 induction q with
 | zero =>
  intro N i acc hi hN ha;obtain ⟨N,rfl⟩:∃N',N=N'+1:=⟨N-1,by omega⟩;show F4 F x17831 S x19851 k9 y A (F5 F x17831 S x19851 k9 y A N) (i:Int) acc=_;unfold F4;rw [An (by simp;omega),List.drop_eq_nil_of_le (by omega)];simp
 | succ q ih =>
  intro N i acc hi hN ha;obtain ⟨N,rfl⟩:∃N',N=N'+1:=⟨N-1,by omega⟩;show F4 F x17831 S x19851 k9 y A (F5 F x17831 S x19851 k9 y A N) (i:Int) acc=_;unfold F4;rw [Ap (by simp;omega),Bm default (by omega),Int.toNat_natCast,Jy (by simp;omega),ckb (by omega)];have:=ih N (i+1) (acc++[(y.1.getD i default).Speed]) (by omega) (by omega) (by simp;omega);rw [Int.natCast_add] at this;refine Eq.trans this ?_;rw [Bk (i:=i) (by omega) default];simp
end
section
variable {F:Nat} {t:zH} {s:zN} {mst jp br:Int} {n m:Nat} {G:Rays}
def oX (t:zH) (s:zN) (mst:Int) (G:Rays) (a i:Nat):zK:=if (gX s a i).Kind=3 then A9e (gl t (gX s a i) mst) (gf G (a,i)) else ⟨1,[]⟩
def AX (t:zH) (s:zN) (mst:Int) (n m:Nat):List (List (List zC)):=(List.range n).map fun a=>(List.range m).map (aX t s mst a)
theorem A87 {α β:Type} {n m a i:Nat} (f:Nat→Nat→α) (k:List α→Option β):(Ak (PC n m f a i) (a:Int)).bind k=k ((List.range i).map (f a)):=by
 unfold PC;exact Nz (by simp) k
theorem B3k {α β:Type} {n m a i:Nat} (f:Nat→Nat→α) (k:List (List α)→Option β):(Gk (PC n m f a i) (a:Int) ((List.range i).map (f a)++[f a i])).bind k=k (PC n m f a (i+1)):=by
 unfold PC;rw [Pf (by simp),List.range_succ,List.map_append];rfl
theorem A7h (hF:FF≤F) (hm:1≤mst∧mst≤200000) (hG:AllG G) (hS:Shape G n m) {a:Nat} (ha:a<n) (hn:n≤1000) (hmm:m≤1000) (hr:(s.Rays.getD a []).length=m)
  (k3:Int→List (List zK)→Option (List (List zK)×Int)):∀(q N i:Nat),i+q=m→q<N →
  Eu F (AX t s mst n m) G (a:Int) k3 (s.Rays.getD a []) N (i:Int) (PC n m (oX t s mst G) a i)=k3 ((a+1:Nat):Int) (PA n m (oX t s mst G) (a+1)):=by
 intro q
 induction q with
 | zero =>
  intro N i hi hN;obtain ⟨N,rfl⟩:∃N',N=N'+1:=⟨N-1,by omega⟩;obtain rfl:i=m:=by omega
  show G6 F (AX t s mst n i) G (a:Int) k3 (s.Rays.getD a []) (Eu F (AX t s mst n i) G (a:Int) k3 (s.Rays.getD a []) N) (i:Int) _=_;unfold G6 M7;rw [An (decide_eq_false (by omega)),ckb (by omega),B3j ha];rfl
 | succ q ih =>
  intro N i hi hN;obtain ⟨N,rfl⟩:∃N',N=N'+1:=⟨N-1,by omega⟩;show G6 F (AX t s mst n m) G (a:Int) k3 (s.Rays.getD a []) (Eu F (AX t s mst n m) G (a:Int) k3 (s.Rays.getD a []) N) (i:Int) _=_;unfold G6;have hx:(s.Rays.getD a []).getD i default=gX s a i:=rfl;have ihh:=ih N (i+1) (by omega) (by omega);rw [Int.natCast_add] at ihh;have hK:∀(o:zK),o=oX t s mst G a i→Hl (a:Int) (i:Int) (PC n m (oX t s mst G) a i) (Eu F (AX t s mst n m) G (a:Int) k3 (s.Rays.getD a []) N) o.State o.Guesses=k3 ((a+1:Nat):Int) (PA n m (oX t s mst G) (a+1)):=by
   rintro o rfl;unfold Hl;rw [A87,Jy (by simp;omega),A87];refine Eq.trans (B3k (oX t s mst G) _) ?_;rw [ckb (by omega)];exact ihh
  rw [Ap (decide_eq_true (by omega)),Bm default (by omega),Int.toNat_natCast,hx]
  by_cases h3:(gX s a i).Kind=3
  ·have hrow:=hS.row ha;have hlen:=Xe (t:=t) (x:=gX s a i) (m:=mst);rw [Ap (by simpa using h3),AX,B35 ha,B34 (by omega:i<m),Bm [] (by rw [hS.1];omega),Int.toNat_natCast,Bm [] (by rw [hrow];omega),Int.toNat_natCast];have e1:aX t s mst a i=gl t (gX s a i) mst:=by unfold aX;rw [if_pos h3]
   have e2:(G.getD a []).getD i []=gf G (a,i):=rfl;rw [e1,e2,B1p hF (hG.good (a,i)) (by omega) (fun g hg=>(A5f hg).1),sb];exact hK _ (by unfold oX;rw [if_pos h3])
  ·rw [An (by simpa using h3)];exact hK ⟨1,[]⟩ (by unfold oX;rw [if_neg h3])
theorem B0a (hF:FF≤F) (hm:1≤mst∧mst≤200000) (hG:AllG G) (hS:Shape G n m) (hl:s.Rays.length=n) (hn:n≤1000) (hmm:m≤1000) (hr:∀a<n,(s.Rays.getD a []).length=m):∀(q N a:Nat),a+q=n→q<N →
  Et F s (AX t s mst n m) G N (a:Int) (PA n m (oX t s mst G) a)=some ((List.range n).map fun a=>(List.range m).map (oX t s mst G a),0):=by
 have hF1:=hF;unfold FF at hF1;intro q
 induction q with
 | zero =>
  intro N a hi hN;obtain ⟨N,rfl⟩:∃N',N=N'+1:=⟨N-1,by omega⟩;obtain rfl:a=n:=by omega
  show G5 F s (AX t s mst a m) G (Et F s (AX t s mst a m) G N) (a:Int) _=_;unfold G5 M6;rw [An (decide_eq_false (by omega)),A36]
 | succ q ih =>
  intro N a hi hN;obtain ⟨N,rfl⟩:∃N',N=N'+1:=⟨N-1,by omega⟩;show G5 F s (AX t s mst n m) G (Et F s (AX t s mst n m) G N) (a:Int) _=_;unfold G5;rw [Ap (decide_eq_true (by omega)),Bm [] (by omega),Int.toNat_natCast,B12 (by omega:a<n)];exact Eq.trans (A7h hF hm hG hS (by omega:a<n) hn hmm (hr a (by omega)) (Et F s (AX t s mst n m) G N) m F 0 (by omega) (by omega)) (ih N (a+1) (by omega) (by omega))
theorem A88:Shape (SX t s mst n m) n m:=by
 refine ⟨by simp [SX],fun r hr=>?_⟩;obtain ⟨a,_,rfl⟩:=List.mem_map.1 hr;simp
theorem B13 (hm:1≤mst∧mst≤200000):AllG (SX t s mst n m):=by
 intro r hr x hx;obtain ⟨a,_,rfl⟩:=List.mem_map.1 hr;obtain ⟨i,_,rfl⟩:=List.mem_map.1 hx;exact B2k hm a i
end
section
variable {S:Rays} {br jp:Int} {n m:Nat} {F:Nat}
theorem B1q (hx:Gs jp br=0):(0≤jp∧jp≤400000)∧1≤br∧br≤16:=by
 unfold Gs at hx;simp [cond_eq_ite] at hx;omega
end
theorem dT {p:Prop} [Decidable p] (h:p):decide p=true:=decide_eq_true h
theorem dF {p:Prop} [Decidable p] (h:¬p):decide p=false:=decide_eq_false h
def Xt (s:ByteArray):Bool:=(!(sEq s ⟨#[]⟩))&&(decide ((s.size:Int)≤12)&&(decide ((Se s 0).getD 0≥97)&&(decide ((Se s 0).getD 0≤122)&&!A9p s)))
theorem A0k (F:Nat) (s:ByteArray):Pz F s=some (Xt s):=by
 have hg:sEq s ⟨#[]⟩=false→Se s 0=some ((Se s 0).getD 0):=by
  intro h;have hs:s.size≠0:=by
   intro h0;have:s=⟨#[]⟩:=by
    cases s with
    | mk d =>
     have:d=#[]:=Array.eq_empty_of_size_eq_zero h0;rw [this]
   rw [B2i.2 this] at h
   cases h
  unfold Se;rw [if_pos (by omega)];rfl
 unfold Pz Xt Gt
 cases h1:sEq s ⟨#[]⟩ with
 | true=>simp [gd]
 | false =>
  have e:=hg h1;generalize hu:(Se s 0).getD 0=u at e ⊢;rw [e]
  by_cases h2:(s.size:Int)≤12
  ·by_cases h3:u≥97
   ·simp [gd,h2,h3]
   ·simp [gd,h2,h3]
  ·simp [gd,h2]
theorem B1b (n b0 b1 b2 b3:Nat) (h:128≤b0):128≤(Lib.decodeN n b0 b1 b2 b3).1:=by
 unfold Lib.decodeN
 repeat' split
 all_goals first|(simp only;omega)|omega
theorem B3u {s:ByteArray} {i:Nat} (h:(s.get! i).toNat<128):Utf8.decode s i=((s.get! i).toNat,1):=by
 rw [Lib.decode_at];unfold Lib.decodeN;rw [if_pos h]
theorem B3t {s:ByteArray} {i:Nat} (h:128≤(s.get! i).toNat):128≤(Utf8.decode s i).1:=by
 rw [Lib.decode_at];exact B1b _ _ _ _ _ h
theorem A9o {x:Nat} (h:128≤x):nmC x=true:=by
 unfold nmC;have h1:decide (x≤122)=false:=by simp;omega
 have h2:decide (x≤57)=false:=by simp;omega
 have h3:(x==95)=false:=by simp;omega
 rw [h1,h2,h3];simp
theorem Wi (s:ByteArray):∀(f pos:Nat),s.size≤pos+f→(0≤Lib.idxFuncFrom nmC true s f pos↔∃j,pos≤j∧j<s.size∧nmC (s.get! j).toNat=true):=by
 intro f
 induction f with
 | zero =>
  intro pos h;rw [Lib.idxFuncFrom_end nmC true s 0 pos (by omega)];constructor
  ·intro h;omega
  ·rintro ⟨j,h1,h2,_⟩;omega
 | succ f ih =>
  intro pos h;rw [Lib.idxFuncFrom]
  by_cases hp:pos<s.size
  ·rw [if_pos hp]
   by_cases hb:(s.get! pos).toNat<128
   ·rw [B3u hb];simp only
    by_cases hn:nmC (s.get! pos).toNat=true
    ·rw [if_pos hn];exact ⟨fun _=>⟨pos,Nat.le_refl _,hp,hn⟩,fun _=>by omega⟩
    ·rw [if_neg hn,ih (pos+1) (by omega)];constructor
     ·rintro ⟨j,h1,h2,h3⟩;exact ⟨j,by omega,h2,h3⟩
     ·rintro ⟨j,h1,h2,h3⟩;refine ⟨j,?_,h2,h3⟩;rcases Nat.lt_or_ge pos j with h4|h4
      ·omega
      ·obtain rfl:j=pos:=by omega
       exact absurd h3 hn
   ·rw [if_pos (A9o (B3t (by omega)))];exact ⟨fun _=>⟨pos,Nat.le_refl _,hp,A9o (by omega)⟩,fun _=>by omega⟩
  ·rw [if_neg hp];constructor
   ·intro h;omega
   ·rintro ⟨j,h1,h2,_⟩;omega
theorem B1i {s:ByteArray} {i:Nat} (h:i<s.size):s[i]=s.get! i:=by
 cases s with
 | mk d =>
  show d[i]=d[i]!;rw [getElem!_pos d i h]
theorem A5d {s:ByteArray} {i:Nat} (h:i<s.size):Se s i=some (((s.get! i).toNat:Nat):Int):=by
 unfold Se;rw [if_pos (by omega),Int.toNat_natCast,getElem!_pos s i h,B1i h]
theorem A77 (s:ByteArray):∀(m i f:Nat),s.size-i<m→i≤s.size→s.size≤1000000→s.size≤i+f→Jo s m i=some (!decide (0≤Lib.idxFuncFrom nmC true s f i)):=by
 intro m
 induction m with
 | zero=>intro i f h;omega
 | succ m ih =>
  intro i f h hi h9 hf;rw [Jo,N9]
  by_cases hb:i<s.size
  ·rw [Ap (dT (by omega)),A5d hb,sb];have hx:=UInt8.toNat_lt (s.get! i);generalize hu:(s.get! i).toNat=u at *;have e:(bif (bif (bif (decide (((u:Nat):Int)<97)) then true else (decide (((u:Nat):Int)>122))) then (bif (decide (((u:Nat):Int)<48)) then true else (decide (((u:Nat):Int)>57))) else false) then (((u:Nat):Int) != 95) else false)=nmC u:=by
    unfold nmC;rw [Bool.eq_iff_iff];simp only [cond_eq_ite,Bool.if_true_left,Bool.and_eq_true,Bool.or_eq_true,decide_eq_true_eq,bne_iff_ne,ne_eq,Bool.not_eq_true',Bool.or_eq_false_iff,Bool.and_eq_false_iff,decide_eq_false_iff_not,beq_eq_false_iff_ne,Bool.if_false_right];omega
   rw [e]
   by_cases hn:nmC u=true
   ·rw [Ap hn,dT ((Wi s f i hf).2 ⟨i,Nat.le_refl _,hb,by rw [hu];exact hn⟩)];rfl
   ·rw [An (by simpa using hn),ckb (by omega),show ((i:Int)+1)=((i+1:Nat):Int) by omega,ih (i+1) f (by omega) (by omega) h9 (by omega)];rw [decide_eq_decide.2];rw [Wi s f (i+1) (by omega),Wi s f i hf];constructor
    ·rintro ⟨j,h1,h2,h3⟩;exact ⟨j,by omega,h2,h3⟩
    ·rintro ⟨j,h1,h2,h3⟩;refine ⟨j,?_,h2,h3⟩;rcases Nat.lt_or_ge i j with h4|h4
     ·omega
     ·obtain rfl:j=i:=by omega
      rw [hu] at h3;exact absurd h3 hn
  ·rw [An (dF (by omega)),Na,dF]
   ·rfl
   ·rw [Wi s f i hf];rintro ⟨j,h1,h2,_⟩;omega
theorem B2j (s:ByteArray):sEq s ⟨#[]⟩=decide (s.size=0):=by
 unfold sEq
 cases s with
 | mk d =>
  show decide (d.toList=[])=decide (d.size=0);rw [decide_eq_decide];constructor
  ·intro h;have:=congrArg List.length h;simpa using this
  ·intro h;rw [Array.eq_empty_of_size_eq_zero h]
theorem A9n {F:Nat} (hF:100≤F) (s:ByteArray):P6 F s=some (Xt s):=by
 rw [P6];unfold Xt A9p;rw [B2j]
 by_cases h1:s.size=0∨s.size>12
 ·have hc:(bif (decide (((s.size:Nat):Int)<1)) then true else (decide (((s.size:Nat):Int)>12)))=true:=by
   rcases h1 with h|h
   ·rw [dT (by omega)];rfl
   ·rw [dT (show ((s.size:Nat):Int)>12 by omega)];cases decide (((s.size:Nat):Int)<1)<;>rfl
  rw [hc,gdF (by rfl),sb,Ap (c:=true) rfl,gdF (by rfl),sb];simp only [cond_true];rcases h1 with h|h
  ·rw [dT h];rfl
  ·rw [dF (show ¬((s.size:Nat):Int)≤12 by omega)];cases decide (s.size=0)<;>rfl
 ·have hc:(bif (decide (((s.size:Nat):Int)<1)) then true else (decide (((s.size:Nat):Int)>12)))=false:=by
   rw [dF (by omega),dF (by omega)];rfl
  have hg:Se s 0=some (((s.get! 0).toNat:Nat):Int):=A5d (i:=0) (by omega);rw [hc,gdT (by rfl),hg,sb,An (c:=false) rfl,dF (show ¬s.size=0 by omega),dT (show ((s.size:Nat):Int)≤12 by omega)];rw [Option.getD_some];generalize hu:(((s.get! 0).toNat:Nat):Int)=u
  by_cases h2:u<97
  ·rw [dT h2,gdF (by rfl),sb,Ap (c:=true) rfl,Ap (c:=true) rfl,dF (show ¬u≥97 by omega)];rfl
  ·rw [dF h2,gdT (by rfl),sb,An (c:=false) rfl,dT (show u≥97 by omega)]
   by_cases h3:u>122
   ·rw [dT h3,Ap (c:=true) rfl,dF (show ¬u≤122 by omega)];rfl
   ·rw [dF h3,An (c:=false) rfl,dT (show u≤122 by omega),show (0:Int)=((0:Nat):Int) from rfl,A77 s F 0 s.size (by omega) (by omega) (by omega) (by omega)];rfl
theorem B5x (x lo hi:Int):Ag x lo hi=Af x lo hi:=rfl
theorem B0p {F:Nat} (hF:100≤F) (s:zS):Jf F s=D6 F s:=by
 rw [Jf,D6,A9n hF,A0k,sb,sb];simp only [B5x,D2,C5]
 cases Xt s.Name<;>cases Af s.X (-1048576) 1048576<;>cases Af s.Y (-1048576) 1048576<;>cases Af s.Z 0 20000<;>cases Af s.Rose 1 90<;>cases Af s.Gates 1 200<;>cases Af s.Step 50 2000<;>cases Af s.Width 0 8<;>rfl
def V6:List zE→Int
 | []=>0
 | x::l=>if Kx x=0 then V6 l else Kx x
def U6:List (List zE)→Int
 | []=>0
 | u::l=>if V6 u=0 then U6 l else V6 u
def Vp (g:Int) (X:List (List zE)):List (List zE)→Int
 | []=>U6 X
 | u::l=>if (u.length:Int)=g then Vp g X l else 11
theorem Rw {α:Type} {l:List α} {i:Nat} (h:i<l.length) (d:α):l.drop i=l.getD i d::l.drop (i+1):=by
 rw [List.drop_eq_getElem_cons h,List.getD_eq_getElem?_getD,List.getElem?_eq_getElem h];rfl
theorem B6n (F:Nat) (hF:4≤F) (u:List zE) (hu:u.length≤1000) (x:Int) (k3:Int→Option Int) (hx:0≤x∧x≤1000):∀(q N i:Nat),i+q=u.length→q<N →
  Cs F x k3 u N (i:Int)=if V6 (u.drop i)=0 then k3 (x+1) else some (V6 (u.drop i)):=by
 intro q
 induction q with
 | zero =>
  intro N i hi hN;obtain ⟨N,rfl⟩:∃N',N=N'+1:=⟨N-1,by omega⟩;show Cq F x k3 u (Cs F x k3 u N) (i:Int)=_;unfold Cq Hc;rw [An (dF (by omega)),List.drop_eq_nil_of_le (by omega),ckb (by omega)];rfl
 | succ q ih =>
  intro N i hi hN;obtain ⟨N,rfl⟩:∃N',N=N'+1:=⟨N-1,by omega⟩;show Cq F x k3 u (Cs F x k3 u N) (i:Int)=_;unfold Cq;have:=ih N (i+1) (by omega) (by omega);rw [Int.natCast_add] at this;rw [Ap (dT (by omega)),Bm default (by omega),Int.toNat_natCast,Hk,A4g F hF,sb,Rw (i:=i) (by omega) default];unfold V6
  by_cases h:Kx (u.getD i default)=0
  ·rw [An (by rw [h];rfl),ckb (by omega),if_pos h];exact this
  ·rw [Ap (by simpa only [bne_iff_ne,ne_eq] using h),if_neg h,if_neg h]
theorem B59 (F:Nat) (hF:2000≤F) (s:zN) (hX:s.Rays.length≤1000) (hx:∀r∈s.Rays,r.length≤1000):∀(q N i:Nat),i+q=s.Rays.length→q<N →
  C2 F s N (i:Int)=some (U6 (s.Rays.drop i)):=by
 intro q
 induction q with
 | zero =>
  intro N i hi hN;obtain ⟨N,rfl⟩:∃N',N=N'+1:=⟨N-1,by omega⟩;show Cp F s (C2 F s N) (i:Int)=_;unfold Cp;rw [An (dF (by omega)),List.drop_eq_nil_of_le (by omega)];rfl
 | succ q ih =>
  intro N i hi hN;obtain ⟨N,rfl⟩:∃N',N=N'+1:=⟨N-1,by omega⟩;show Cp F s (C2 F s N) (i:Int)=_;unfold Cp;have hm:s.Rays.getD i []∈s.Rays:=by rw [List.getD_eq_getElem?_getD,List.getElem?_eq_getElem (by omega:i<s.Rays.length)];exact List.getElem_mem _
  have hlen:=hx _ hm;rw [Ap (dT (by omega)),Bm [] (by omega),Int.toNat_natCast];refine Eq.trans (B6n F (by omega) (s.Rays.getD i []) hlen (i:Int) (C2 F s N) (by omega) (s.Rays.getD i []).length F 0 (by omega) (by omega)) ?_;rw [List.drop_zero,Rw (i:=i) (l:=s.Rays) (by omega) []];have:=ih N (i+1) (by omega) (by omega);rw [Int.natCast_add] at this;unfold U6
  by_cases h:V6 (s.Rays.getD i [])=0
  ·rw [if_pos h,if_pos h];exact this
  ·rw [if_neg h,if_neg h]
theorem B58 (F:Nat) (hF:2000≤F) (s:zN) (hX:s.Rays.length≤1000) (hx:∀r∈s.Rays,r.length≤1000):∀(q N i:Nat),i+q=s.Rays.length→q<N →
  Ct F s N (i:Int)=some (Vp s.Site.Gates s.Rays (s.Rays.drop i)):=by
 intro q
 induction q with
 | zero =>
  intro N i hi hN;obtain ⟨N,rfl⟩:∃N',N=N'+1:=⟨N-1,by omega⟩;show Cr F s (Ct F s N) (i:Int)=_;unfold Cr Hb;rw [An (dF (by omega)),List.drop_eq_nil_of_le (by omega)];exact B59 F hF s hX hx s.Rays.length F 0 (by omega) (by omega)
 | succ q ih =>
  intro N i hi hN;obtain ⟨N,rfl⟩:∃N',N=N'+1:=⟨N-1,by omega⟩;show Cr F s (Ct F s N) (i:Int)=_;unfold Cr;have:=ih N (i+1) (by omega) (by omega);rw [Int.natCast_add] at this;rw [Ap (dT (by omega)),Bm [] (by omega),Int.toNat_natCast,Rw (i:=i) (l:=s.Rays) (by omega) []];unfold Vp
  by_cases h:((s.Rays.getD i []).length:Int)=s.Site.Gates
  ·rw [An (by rw [h];simp),ckb (by omega),if_pos h];exact this
  ·rw [Ap (by simpa only [bne_iff_ne,ne_eq] using h),if_neg h]
theorem B6q (F:Nat) (hF:4≤F) (s:zN) {a:Nat} (ha:a<s.Rays.length) (hX:s.Rays.length≤1000) (hu:(s.Rays.getD a []).length≤1000) (k3:Int→Option Int):∀(q N i:Nat),i+q=(s.Rays.getD a []).length→q<N →
  Cy F s (a:Int) k3 N (i:Int)=if V6 ((s.Rays.getD a []).drop i)=0 then k3 ((a:Int)+1) else some (V6 ((s.Rays.getD a []).drop i)):=by
 intro q
 induction q with
 | zero =>
  intro N i hi hN;obtain ⟨N,rfl⟩:∃N',N=N'+1:=⟨N-1,by omega⟩;show Cv F s (a:Int) k3 (Cy F s (a:Int) k3 N) (i:Int)=_;unfold Cv Hh;rw [Bm [] (by omega),Int.toNat_natCast,An (dF (by omega)),List.drop_eq_nil_of_le (by omega),ckb (by omega)];rfl
 | succ q ih =>
  intro N i hi hN;obtain ⟨N,rfl⟩:∃N',N=N'+1:=⟨N-1,by omega⟩;show Cv F s (a:Int) k3 (Cy F s (a:Int) k3 N) (i:Int)=_;unfold Cv;have:=ih N (i+1) (by omega) (by omega);rw [Int.natCast_add] at this;rw [Bm [] (by omega),Int.toNat_natCast,Ap (dT (by omega)),Bm [] (by omega),Int.toNat_natCast,Bm default (by omega),Int.toNat_natCast,Hk,A2b F,sb,Rw (i:=i) (by omega) default];unfold V6
  by_cases h:Kx ((s.Rays.getD a []).getD i default)=0
  ·rw [An (by rw [h];rfl),ckb (by omega),if_pos h];exact this
  ·rw [Ap (by simpa only [bne_iff_ne,ne_eq] using h),if_neg h,if_neg h]
theorem B5h (F:Nat) (hF:2000≤F) (s:zN) (hX:s.Rays.length≤1000) (hx:∀r∈s.Rays,r.length≤1000):∀(q N i:Nat),i+q=s.Rays.length→q<N →
  C4 F s N (i:Int)=some (U6 (s.Rays.drop i)):=by
 intro q
 induction q with
 | zero =>
  intro N i hi hN;obtain ⟨N,rfl⟩:∃N',N=N'+1:=⟨N-1,by omega⟩;show Cu F s (C4 F s N) (i:Int)=_;unfold Cu;rw [An (dF (by omega)),List.drop_eq_nil_of_le (by omega)];rfl
 | succ q ih =>
  intro N i hi hN;obtain ⟨N,rfl⟩:∃N',N=N'+1:=⟨N-1,by omega⟩;show Cu F s (C4 F s N) (i:Int)=_;unfold Cu;have hm:s.Rays.getD i []∈s.Rays:=by rw [List.getD_eq_getElem?_getD,List.getElem?_eq_getElem (by omega:i<s.Rays.length)];exact List.getElem_mem _
  have hlen:=hx _ hm;rw [Ap (dT (by omega))];refine Eq.trans (B6q F (by omega) s (a:=i) (by omega) hX hlen (C4 F s N) (s.Rays.getD i []).length F 0 (by omega) (by omega)) ?_;rw [List.drop_zero,Rw (i:=i) (l:=s.Rays) (by omega) []];have:=ih N (i+1) (by omega) (by omega);rw [Int.natCast_add] at this;unfold U6
  by_cases h:V6 (s.Rays.getD i [])=0
  ·rw [if_pos h,if_pos h];exact this
  ·rw [if_neg h,if_neg h]
theorem B5e (F:Nat) (hF:2000≤F) (s:zN) (hX:s.Rays.length≤1000) (hx:∀r∈s.Rays,r.length≤1000):∀(q N i:Nat),i+q=s.Rays.length→q<N →
  Cz F s N (i:Int)=some (Vp s.Site.Gates s.Rays (s.Rays.drop i)):=by
 intro q
 induction q with
 | zero =>
  intro N i hi hN;obtain ⟨N,rfl⟩:∃N',N=N'+1:=⟨N-1,by omega⟩;show Cw F s (Cz F s N) (i:Int)=_;unfold Cw Hg;rw [An (dF (by omega)),List.drop_eq_nil_of_le (by omega)];exact B5h F hF s hX hx s.Rays.length F 0 (by omega) (by omega)
 | succ q ih =>
  intro N i hi hN;obtain ⟨N,rfl⟩:∃N',N=N'+1:=⟨N-1,by omega⟩;show Cw F s (Cz F s N) (i:Int)=_;unfold Cw;have:=ih N (i+1) (by omega) (by omega);rw [Int.natCast_add] at this;rw [Ap (dT (by omega)),Bm [] (by omega),Int.toNat_natCast,Rw (i:=i) (l:=s.Rays) (by omega) []];unfold Vp
  by_cases h:((s.Rays.getD i []).length:Int)=s.Site.Gates
  ·rw [An (by rw [h];simp),ckb (by omega),if_pos h];exact this
  ·rw [Ap (by simpa only [bne_iff_ne,ne_eq] using h),if_neg h]
def Qv (F:Nat) (s:zN):Option Int :=
 (D6 F s.Site).bind fun e=>if e≠0 then some e else if ¬(0≤s.Tilt∧s.Tilt≤256∧0≤s.Time∧s.Time≤4294967296) then some 3 else
  if (s.Rays.length:Int)≠4*s.Site.Rose then some 11 else some (Vp s.Site.Gates s.Rays s.Rays)
theorem Zw (F:Nat) (s:zS) (h:D6 F s=some 0):1≤s.Rose∧s.Rose≤90:=by
 unfold D6 at h;rw [A0k,sb] at h;simp only [D2,C5] at h;have hr:Af s.Rose 1 90=true:=by
  cases hb:Af s.Rose 1 90 with
  | true=>rfl
  | false =>
   exfalso;rw [hb] at h;revert h
   cases Xt s.Name<;>cases Af s.X (-1048576) 1048576<;>cases Af s.Y (-1048576) 1048576<;>cases Af s.Z 0 20000<;>simp
 unfold Af at hr
 revert hr
 cases h1:decide (1≤s.Rose)<;>simp at h1 ⊢
 omega
theorem Sa (F:Nat) (s:zS):∃e,D6 F s=some e:=by
 unfold D6;rw [A0k,sb];simp only [D2,C5]
 cases Xt s.Name<;>cases Af s.X (-1048576) 1048576<;>cases Af s.Y (-1048576) 1048576<;>cases Af s.Z 0 20000<;>cases Af s.Rose 1 90<;>cases Af s.Gates 1 200<;>cases Af s.Step 50 2000<;>cases Af s.Width 0 8<;>exact ⟨_,rfl⟩
theorem B3e (s:zN) (w:Int→Int→Int→Bool) (hw:∀x lo hi,w x lo hi=decide (lo≤x∧x≤hi)):(bif (!(w s.Tilt 0 256)) then true else (!(w s.Time 0 4294967296)))=decide (¬(0≤s.Tilt∧s.Tilt≤256∧0≤s.Time∧s.Time≤4294967296)):=by
 rw [hw,hw,Bool.eq_iff_iff];simp only [cond_eq_ite,Bool.if_true_left,Bool.or_eq_true,Bool.not_eq_true',decide_eq_false_iff_not,decide_eq_true_eq];omega
theorem B3a (x lo hi:Int):Ac x lo hi=decide (lo≤x∧x≤hi):=by
 unfold Ac
 by_cases h:lo≤x<;>simp [h]
theorem B26 (F:Nat) (hF:2000≤F) (s:zN) (hX:s.Rays.length≤1000) (hx:∀r∈s.Rays,r.length≤1000):Hq F s=Qv F s:=by
 unfold Hq Qv;rw [B3e s Ac B3a];obtain ⟨e,he⟩:=Sa F s.Site;rw [he,sb,sb]
 by_cases h0:e=0
 ·have hr:=Zw F s.Site (by rw [he,h0]);rw [An (by simp [h0]),if_neg (by simp [h0])]
  by_cases h1:¬(0≤s.Tilt∧s.Tilt≤256∧0≤s.Time∧s.Time≤4294967296)
  ·rw [Ap (dT h1),if_pos h1]
  ·rw [An (dF h1),if_neg h1,ckb (by omega)]
   by_cases h2:(s.Rays.length:Int)=4*s.Site.Rose
   ·rw [An (by simp [h2]),if_neg (by simp [h2])];exact B58 F hF s hX hx s.Rays.length F 0 (by omega) (by omega)
   ·rw [Ap (by simpa using h2),if_pos h2]
 ·rw [Ap (by simpa using h0),if_pos h0]
theorem B2a (F:Nat) (hF:2000≤F) (s:zN) (hX:s.Rays.length≤1000) (hx:∀r∈s.Rays,r.length≤1000):Hs F s=Qv F s:=by
 unfold Hs Qv;rw [B3e s Ag B3a,B0p (by omega)];obtain ⟨e,he⟩:=Sa F s.Site;rw [he,sb,sb]
 by_cases h0:e=0
 ·have hr:=Zw F s.Site (by rw [he,h0]);rw [An (by simp [h0]),if_neg (by simp [h0])]
  by_cases h1:¬(0≤s.Tilt∧s.Tilt≤256∧0≤s.Time∧s.Time≤4294967296)
  ·rw [Ap (dT h1),if_pos h1]
  ·rw [An (dF h1),if_neg h1,ckb (by omega)]
   by_cases h2:(s.Rays.length:Int)=4*s.Site.Rose
   ·rw [An (by simp [h2]),if_neg (by simp [h2])];exact B5e F hF s hX hx s.Rays.length F 0 (by omega) (by omega)
   ·rw [Ap (by simpa using h2),if_pos h2]
 ·rw [Ap (by simpa using h0),if_pos h0]
theorem B2g:∀{u:List zE},V6 u=0→∀x∈u,Kx x=0:=by
 intro u
 induction u with
 | nil=>intro _ x hx;cases hx
 | cons y u ih =>
  intro h x hx;unfold V6 at h
  split at h
  ·rename_i h0
   rcases List.mem_cons.1 hx with rfl|hx
   ·exact h0
   ·exact ih h x hx
  ·rename_i h0;exact absurd h h0
theorem B0j:∀{X:List (List zE)},U6 X=0→∀u∈X,∀x∈u,Kx x=0:=by
 intro X
 induction X with
 | nil=>intro _ u hu;cases hu
 | cons v X ih =>
  intro h u hu;unfold U6 at h
  split at h
  ·rename_i h0
   rcases List.mem_cons.1 hu with rfl|hu
   ·exact B2g h0
   ·exact ih h u hu
  ·rename_i h0;exact absurd h h0
theorem A9g {g:Int} {X:List (List zE)}:∀{Y:List (List zE)},Vp g X Y=0→(∀u∈Y,(u.length:Int)=g)∧U6 X=0:=by
 intro Y
 induction Y with
 | nil=>intro h;exact ⟨fun u hu=>(by cases hu),h⟩
 | cons v Y ih =>
  intro h;unfold Vp at h
  split at h
  ·rename_i h0
   obtain ⟨h1,h2⟩:=ih h;refine ⟨fun u hu=>?_,h2⟩;rcases List.mem_cons.1 hu with rfl|hu
   ·exact h0
   ·exact h1 u hu
  ·cases h
theorem B0r {F:Nat} {s:zN} (h:Qv F s=some 0):(∀u∈s.Rays,(u.length:Int)=s.Site.Gates)∧∀u∈s.Rays,∀x∈u,Kx x=0:=by
 unfold Qv at h;obtain ⟨e,he⟩:=Sa F s.Site;rw [he,sb] at h
 split at h
 ·rename_i h0;exact absurd (Option.some.inj h) h0
 ·split at h
  ·cases h
  ·split at h
   ·cases h
   ·have:=A9g (Option.some.inj h);exact ⟨this.1,B0j this.2⟩
theorem A4v {F:Nat} {s:zN}:∃e,Qv F s=some e:=by
 unfold Qv;obtain ⟨e,he⟩:=Sa F s.Site;rw [he,sb]
 repeat' split
 all_goals exact ⟨_,rfl⟩
def Vy (t:zH) (x:zE) (m:Int):Prop:=x.Kind=3∧(Nw t x m 0∨(t.Kind≠1∧Nw t x m 1))
theorem B57 {F:Nat} (hF:2000≤F) {t:zH} {x:zE} {m:Int} (ht:Fi t=0) (hm:1≤m∧m≤200000) (hx:Kx x=0) (h3:x.Kind=3) :
  (¬Vy t x m∧Fp F (pt t) x m=some (gl t x m,true))∨(Vy t x m∧∃l,Fp F (pt t) x m=some (l,false)):=by
 have hs:=Vk hx h3
 by_cases hb:Nw t x m 0∨(t.Kind≠1∧Nw t x m 1)
 ·refine .inr ⟨⟨h3,hb⟩,?_⟩;obtain ⟨l,b,h1,h2,_⟩:=A4f F hF ht hs hm;have:b=false:=by rw [h2];simp only [decide_eq_false_iff_not,Decidable.not_not];exact hb
  exact ⟨l,by rw [h1,this]⟩
 ·exact .inl ⟨fun h=>hb h.2,B68 F hF ht hs hm (fun h=>hb (.inl h)) (fun h1 h2=>hb (.inr ⟨h1,h2⟩))⟩
section
variable {F:Nat} {t:zH} {s:zN} {mst jp br:Int} {n m:Nat}
def rowD (t:zH) (s:zN) (mst:Int) (a i m:Nat) {α:Type} (r go stop:α):Prop :=
 ((∀j,i≤j→j<m→¬Vy t (gX s a j) mst)∧r=go)∨((∃j,i≤j∧j<m∧Vy t (gX s a j) mst)∧r=stop)
theorem rowD.end_ {a i:Nat} {α:Type} {r go stop:α} (h:r=go) (hi:m≤i):rowD t s mst a i m r go stop:=.inl ⟨fun j h1 h2=>by omega,h⟩
theorem rowD.step {a i:Nat} {α:Type} {r go stop:α} (h:rowD t s mst a (i+1) m r go stop) (hb:¬Vy t (gX s a i) mst):rowD t s mst a i m r go stop:=by
 rcases h with ⟨h1,h2⟩|⟨⟨j,h1,h2,h3⟩,h4⟩
 ·refine .inl ⟨fun j j1 j2=>?_,h2⟩;rcases Nat.lt_or_ge i j with h|h
  ·exact h1 j h j2
  ·obtain rfl:i=j:=by omega
   exact hb
 ·exact .inr ⟨⟨j,by omega,h2,h3⟩,h4⟩
theorem rowD.stop_ {a i:Nat} {α:Type} {r go stop:α} (h:r=stop) (hi:i<m) (hb:Vy t (gX s a i) mst):rowD t s mst a i m r go stop:=.inr ⟨⟨i,Nat.le_refl _,hi,hb⟩,h⟩
def raysD (t:zH) (s:zN) (mst:Int) (a n m:Nat) {α:Type} (r go stop:α):Prop :=
 ((∀b,a≤b→b<n→∀j,j<m→¬Vy t (gX s b j) mst)∧r=go)∨((∃b,a≤b∧b<n∧∃j,j<m∧Vy t (gX s b j) mst)∧r=stop)
theorem raysD.end_ {a:Nat} {α:Type} {r go stop:α} (h:r=go) (hi:n≤a):raysD t s mst a n m r go stop:=.inl ⟨fun j h1 h2=>by omega,h⟩
theorem raysD.step {a:Nat} {α:Type} {r go stop:α} (h:raysD t s mst (a+1) n m r go stop) (hb:∀j,0≤j→j<m→¬Vy t (gX s a j) mst):raysD t s mst a n m r go stop:=by
 rcases h with ⟨h1,h2⟩|⟨⟨j,h1,h2,h3⟩,h4⟩
 ·refine .inl ⟨fun j j1 j2=>?_,h2⟩;rcases Nat.lt_or_ge a j with h|h
  ·exact h1 j h j2
  ·obtain rfl:a=j:=by omega
   exact fun k hk=>hb k (by omega) hk
 ·exact .inr ⟨⟨j,by omega,h2,h3⟩,h4⟩
theorem raysD.stop_ {a:Nat} {α:Type} {r go stop:α} (h:r=stop) (hi:a<n) (hb:∃j,0≤j∧j<m∧Vy t (gX s a j) mst):raysD t s mst a n m r go stop:=by
 obtain ⟨j,_,h2,h3⟩:=hb;exact .inr ⟨⟨a,Nat.le_refl _,hi,j,h2,h3⟩,h⟩
theorem A1u (hF:FF≤F) (ht:Fi t=0) (hv:∀a i,(gX s a i).Kind=3→Kx (gX s a i)=0) (hm:1≤mst∧mst≤200000) {a:Nat} (ha:a<n) (hn:n≤1000) (hmm:m≤1000) (hr:(s.Rays.getD a []).length=m)
  (k7:List (List (List zA))→List (List (List zC))→Int→Option (List (List zK)×Int)):∀(q N i:Nat),i+q=m→q<N →
  rowD t s mst a i m (D9 F (pt t) mst (a:Int) k7 (s.Rays.getD a []) N (PB n m [] (sX t s mst) a i) (PB n m [] (aX t s mst) a i) (i:Int)) (k7 (PA n m (sX t s mst) (a+1)) (PA n m (aX t s mst) (a+1)) ((a+1:Nat):Int)) (some ([],9)):=by
 have hF1:=hF;unfold FF at hF1;intro q
 induction q with
 | zero =>
  intro N i hi hN;obtain ⟨N,rfl⟩:∃N',N=N'+1:=⟨N-1,by omega⟩;obtain rfl:i=m:=by omega
  refine rowD.end_ ?_ (Nat.le_refl _);show G8 F (pt t) mst (a:Int) k7 (s.Rays.getD a []) (D9 F (pt t) mst (a:Int) k7 (s.Rays.getD a []) N) _ _ (i:Int)=_;unfold G8 M8;rw [An (decide_eq_false (by omega)),ckb (by omega),A86 ha,A86 ha];rfl
 | succ q ih =>
  intro N i hi hN;obtain ⟨N,rfl⟩:∃N',N=N'+1:=⟨N-1,by omega⟩;have hx:(s.Rays.getD a []).getD i default=gX s a i:=rfl;have ihd:=ih N (i+1) (by omega) (by omega);obtain ⟨R,hR⟩:∃R,D9 F (pt t) mst (a:Int) k7 (s.Rays.getD a []) N (PB n m [] (sX t s mst) a (i+1)) (PB n m [] (aX t s mst) a (i+1)) ((i+1:Nat):Int)=R:=⟨_,rfl⟩;rw [hR] at ihd;have ihh:=hR;rw [Int.natCast_add] at ihh;have hla:((List.range a).map (fun b=>(List.range m).map (sX t s mst b))).length=a:=by simp
  have hla2:((List.range a).map (fun b=>(List.range m).map (aX t s mst b))).length=a:=by simp
  have hli:((List.range i).map (sX t s mst a)).length=i:=by simp
  have hli2:((List.range i).map (aX t s mst a)).length=i:=by simp
  have hst:D9 F (pt t) mst (a:Int) k7 (s.Rays.getD a []) (N+1) (PB n m [] (sX t s mst) a i) (PB n m [] (aX t s mst) a i) (i:Int)=G8 F (pt t) mst (a:Int) k7 (s.Rays.getD a []) (D9 F (pt t) mst (a:Int) k7 (s.Rays.getD a []) N) (PB n m [] (sX t s mst) a i) (PB n m [] (aX t s mst) a i) (i:Int):=rfl;rw [hst];unfold G8;rw [Ap (decide_eq_true (by omega)),Bm default (by omega),Int.toNat_natCast,hx];have e1:PB n m [] (sX t s mst) a (i+1)=(List.range a).map (fun b=>(List.range m).map (sX t s mst b))++((List.range i).map (sX t s mst a)++sX t s mst a i::List.replicate (m-(i+1)) [])::List.replicate (n-(a+1)) []:=by
   unfold PB;rw [A2j]
  have e2:PB n m [] (aX t s mst) a (i+1)=(List.range a).map (fun b=>(List.range m).map (aX t s mst b))++((List.range i).map (aX t s mst a)++aX t s mst a i::List.replicate (m-(i+1)) [])::List.replicate (n-(a+1)) []:=by
   unfold PB;rw [A2j]
  have f1:PB n m [] (sX t s mst) a i=(List.range a).map (fun b=>(List.range m).map (sX t s mst b))++((List.range i).map (sX t s mst a)++[]::List.replicate (m-(i+1)) [])::List.replicate (n-(a+1)) []:=by
   unfold PB;rw [A5w (by omega)]
  have f2:PB n m [] (aX t s mst) a i=(List.range a).map (fun b=>(List.range m).map (aX t s mst b))++((List.range i).map (aX t s mst a)++[]::List.replicate (m-(i+1)) [])::List.replicate (n-(a+1)) []:=by
   unfold PB;rw [A5w (by omega)]
  by_cases h3:(gX s a i).Kind=3
  ·rw [An (by simpa using h3),Hk];rcases B57 (F:=F) (by omega) ht hm (hv a i h3) h3 with ⟨hb,hgl⟩|⟨hb,l,hgl⟩
   rotate_left
   ·rw [hgl,sb,Ap (by rfl)];exact rowD.stop_ rfl (by omega) hb
   refine Eq.mp (congrArg (fun r=>rowD t s mst a i m r _ _) (Eq.symm ?_)) (ihd.step hb);rw [hgl,sb,An (by rfl),f2,Nz hla2,Nz hli2,Pf hli2,Pf hla2];have hlen:=Xe (t:=t) (x:=gX s a i) (m:=mst);have h4:=A2u (F:=F) (a:Int) (PB n m [] (sX t s mst) a i) (i:Int) (D9 F (pt t) mst (a:Int) k7 (s.Rays.getD a []) N) (gl t (gX s a i) mst,true) (by simp only;omega)
    ((List.range a).map (fun b=>(List.range m).map (aX t s mst b))++((List.range i).map (aX t s mst a)++gl t (gX s a i) mst::List.replicate (m-(i+1)) [])::List.replicate (n-(a+1)) []) (gl t (gX s a i) mst).length F 0 [] (by simp) (by omega) (by simp;omega)
   refine Eq.trans h4 ?_;obtain ⟨g1,g2,g3⟩:=Zx (t:=t) (x:=gX s a i) hm;unfold J9 Gl;rw [f1,Nz hla,List.drop_zero,List.nil_append,Vd hF g2 (fun p hp=>by have:=g3 p hp;have:=g2 p hp;unfold spB;omega) (by rw [List.length_map];omega),sb,Nz hli,Pf hli,Pf hla,ckb (by omega)];have s1:sX t s mst a i=un ((gl t (gX s a i) mst).map (·.Speed)):=by unfold sX;rw [if_pos h3]
   have s2:aX t s mst a i=gl t (gX s a i) mst:=by unfold aX;rw [if_pos h3]
   rw [e1,e2,s1,s2] at ihh;exact ihh
  ·refine Eq.mp (congrArg (fun r=>rowD t s mst a i m r _ _) (Eq.symm ?_)) (ihd.step fun h=>h3 h.1);rw [Ap (by simpa using h3)];unfold Gl;rw [ckb (by omega)];have s1:sX t s mst a i=[]:=by unfold sX;rw [if_neg h3]
   have s2:aX t s mst a i=[]:=by unfold aX;rw [if_neg h3]
   rw [e1,e2,s1,s2,←f1,←f2] at ihh;exact ihh
theorem A4j (hF:FF≤F) (ht:Fi t=0) (hv:∀a i,(gX s a i).Kind=3→Kx (gX s a i)=0) (hm:1≤mst∧mst≤200000) (hl:s.Rays.length=n) (hn:n≤1000) (hmm:m≤1000) (hr:∀a<n,(s.Rays.getD a []).length=m):∀(q N a:Nat),a+q=n→q<N →
  raysD t s mst a n m (D8 F (pt t) s mst jp br N (PA n m (sX t s mst) a) (PA n m (aX t s mst) a) (a:Int)) (K2 F s jp br (SX t s mst n m) ((List.range n).map fun a=>(List.range m).map (aX t s mst a))) (some ([],9)):=by
 have hF1:=hF;unfold FF at hF1;intro q
 induction q with
 | zero =>
  intro N a hi hN;obtain ⟨N,rfl⟩:∃N',N=N'+1:=⟨N-1,by omega⟩;obtain rfl:a=n:=by omega
  refine raysD.end_ ?_ (Nat.le_refl _);show G7 F (pt t) s mst jp br (D8 F (pt t) s mst jp br N) _ _ (a:Int)=_;unfold G7;rw [An (by simp;omega),A36,A36];rfl
 | succ q ih =>
  intro N a hi hN;obtain ⟨N,rfl⟩:∃N',N=N'+1:=⟨N-1,by omega⟩;have hst:D8 F (pt t) s mst jp br (N+1) (PA n m (sX t s mst) a) (PA n m (aX t s mst) a) (a:Int)=G7 F (pt t) s mst jp br (D8 F (pt t) s mst jp br N) (PA n m (sX t s mst) a) (PA n m (aX t s mst) a) (a:Int):=rfl;rw [hst];unfold G7;have hra:=hr a (by omega);have hla:((List.range a).map (fun b=>(List.range m).map (sX t s mst b))).length=a:=by simp
  have hla2:((List.range a).map (fun b=>(List.range m).map (aX t s mst b))).length=a:=by simp
  rw [Ap (by simp;omega),Bm [] (by omega),Int.toNat_natCast,hra,mkb (by omega) (by omega),A85 (by omega:a<n),Nz hla,mkb (by omega) (by omega),Pf hla,A85 (by omega:a<n),Nz hla2,Pf hla2];have h1:=A1u hF ht hv hm (by omega:a<n) hn hmm hra (D8 F (pt t) s mst jp br N) m F 0 (by omega) (by omega);have e1:PB n m [] (sX t s mst) a 0=(List.range a).map (fun b=>(List.range m).map (sX t s mst b))++List.replicate m []::List.replicate (n-(a+1)) []:=by simp [PB]
  have e2:PB n m [] (aX t s mst) a 0=(List.range a).map (fun b=>(List.range m).map (aX t s mst b))++List.replicate m []::List.replicate (n-(a+1)) []:=by simp [PB]
  rw [e1,e2] at h1;rcases h1 with ⟨b1,h1⟩|⟨b1,h1⟩
  ·exact Eq.mp (congrArg (fun r=>raysD t s mst a n m r _ _) (Eq.symm h1)) ((ih N (a+1) (by omega) (by omega)).step b1)
  ·exact raysD.stop_ h1 (by omega) b1
end
theorem B1j {t:zH} {x:zE} {m:Int}:(gl t x m).map conv=(kr 129 (-64)).flatMap (rgK t x m):=by
 unfold gl
 split
 ·rename_i h;exact A2o h
 ·rename_i h;exact A2p h
theorem B5d {F:Nat} (hF:2000≤F) {t:zH} {x:zE} {m:Int} (ht:Fi t=0) (hm:1≤m∧m≤200000) (hx:Kx x=0) :
  (Vy t x m∧Jp F t x m=some ([],9))∨(¬Vy t x m∧∃e,e≠9∧Jp F t x m=some ((if x.Kind=3 then gl t x m else []).map conv,e)):=by
 have c0:((0:Int) != 0)=false:=rfl;have c1:((0:Int)==0)=true:=rfl;unfold Jp;rw [V3,sb,Hk,ht,c1,cond_true,A2b,sb];unfold Ht;rw [hx,c0,cond_false,An (by simp [cond_eq_ite];omega)]
 by_cases h4:x.Kind=3
 ·have hs:=Vk hx h4;rw [An (by simpa using h4),A7q F hF ht hs hm]
  by_cases hbad:Nw t x m 0∨(t.Kind≠1∧Nw t x m 1)
  ·exact .inl ⟨⟨h4,hbad⟩,by rw [if_pos hbad]⟩
  ·exact .inr ⟨fun h=>hbad h.2,0,by omega,by rw [if_neg hbad,if_pos h4,B1j]⟩
 ·rw [Ap (by simpa using h4)];exact .inr ⟨fun h=>h4 h.1,18,by omega,by rw [if_neg h4];rfl⟩
theorem B1w (a b:List zA):mt a b=mt b a:=Nx (Q8 a b) (Q8 b a) fun z=>by rw [Xs,Xs];exact And.comm
def Ft (f:zK):zG:=⟨f.State,f.Guesses.map conv⟩
theorem A6p (r:List zC) (st:Int) (hst:st=if r.length=0 then 4 else 2):K9 st (r.map conv)=some (Ft (mkF r)):=by
 unfold K9 Ft mkF
 match r,hst with
 | [],h=>subst h;rfl
 | [a],h=>subst h;rfl
 | a::b::c,h=>rw [Ap (by simp;omega)];simp
theorem Xp {α β:Type} (f:α→β) {l:List α} {i:Nat} (h:i<l.length) (d:α) (e:β):(l.map f).getD i e=f (l.getD i d):=by
 rw [List.getD_eq_getElem?_getD,List.getD_eq_getElem?_getD,List.getElem?_map,List.getElem?_eq_getElem h];rfl
theorem A3p {F:Nat} (hF:FF≤F) {set:List zA} (hs:Good set) {l:List zC} (hl:l.length≤1000000):∀(n N i:Nat) (acc:List zC) (st:Int),i+n=l.length→n<N→acc.length+n≤1000000→st=(if acc.length=0 then 4 else 2) →
  Gh F (l.map conv) set N st (acc.map conv) (i:Int)=some (Ft (mkF (acc++(l.drop i).filterMap (Xk set)))):=by
 intro n
 induction n with
 | zero =>
  intro N i acc st hi hN ha hst;obtain ⟨N,rfl⟩:∃N',N=N'+1:=⟨N-1,by omega⟩;show Gg F (l.map conv) set (Gh F (l.map conv) set N) st (acc.map conv) (i:Int)=_;unfold Gg;rw [An (dF (by rw [List.length_map];omega)),List.drop_eq_nil_of_le (by omega),A6p acc st hst];simp
 | succ n ih =>
  intro N i acc st hi hN ha hst;obtain ⟨N,rfl⟩:∃N',N=N'+1:=⟨N-1,by omega⟩;show Gg F (l.map conv) set (Gh F (l.map conv) set N) st (acc.map conv) (i:Int)=_;unfold Gg;have hlm:(l.map conv).length=l.length:=List.length_map ..;obtain ⟨g,hg⟩:∃g,l.getD i default=g:=⟨_,rfl⟩;have hlen:=hs.len;rw [Ap (dT (by omega)),Bm default (by omega),Int.toNat_natCast,Xp conv (by omega) default default,hg,Bk (i:=i) (by omega) default,hg];rw [show (conv g).Speed=g.Speed from rfl,Vt hF (by simp) (by omega),sb,B1w,List.filterMap_cons];have hmt:(mt set [g.Speed]).length≤400001:=(Good.mt (a:=set) (b:=[g.Speed]) hs).len;unfold Xk
  by_cases h0:0<(mt set [g.Speed]).length
  ·rw [Ap (dT (by omega)),Bm default (by omega),Int.toNat_natCast,Xp conv (by omega) default default,hg,Bm default (by omega),ckb (by omega),Bm default (by omega),if_pos h0,Jy (by simp;omega)];unfold J0;rw [ckb (by omega)];have:=ih N (i+1) (acc++[⟨(g.Whole.1,g.Whole.2),⟨((mt set [g.Speed]).getD 0 default).Lo,((mt set [g.Speed]).getD ((mt set [g.Speed]).length-1) default).Hi⟩⟩]) 2 (by omega) (by omega) (by simp;omega) (by simp);rw [Int.natCast_add,List.map_append] at this;have e:((((mt set [g.Speed]).length:Nat):Int)-1).toNat=(mt set [g.Speed]).length-1:=by omega
   rw [e];refine Eq.trans this ?_;rw [List.append_assoc];rfl
  ·rw [An (dF (by omega)),if_neg h0];unfold J0;rw [ckb (by omega)];have:=ih N (i+1) acc st (by omega) (by omega) (by omega) hst;rw [Int.natCast_add] at this;exact this
theorem A8y {F:Nat} (hF:FF≤F) {set:List zA} (hs:Good set) {l:List zC} (hl:l.length≤1000000):Pr F (l.map conv) set=some (Ft (A9e l set)):=by
 have h1:=hF;unfold FF at h1;exact A3p hF hs hl l.length F 0 [] 4 (by omega) (by omega) (by simp;omega) rfl
section
variable {F:Nat} {t:zH} {s:zN} {mst jp br:Int} {n m:Nat} {G:Rays}
theorem B0e (A:List (List zA)) (B:List (List zD)) (x:Int) (k14:List (List zA)→List (List zD)→Int→Option (List (List zG)×Int)) (y:List zD×Int) (hy:y.1.length≤1000000) :
  ∀(q N i:Nat) (acc:List zA),i+q=y.1.length→q<N→acc.length+q≤1000000→Ej F A B x k14 y N acc (i:Int)=Hw F A B x k14 y (acc++(y.1.drop i).map (·.Speed)):=by
 intro q
 induction q with
 | zero =>
  intro N i acc hi hN ha;obtain ⟨N,rfl⟩:∃N',N=N'+1:=⟨N-1,by omega⟩;show Ei F A B x k14 y (Ej F A B x k14 y N) acc (i:Int)=_;unfold Ei;rw [An (by simp;omega),List.drop_eq_nil_of_le (by omega)];simp
 | succ q ih =>
  intro N i acc hi hN ha;obtain ⟨N,rfl⟩:∃N',N=N'+1:=⟨N-1,by omega⟩;show Ei F A B x k14 y (Ej F A B x k14 y N) acc (i:Int)=_;unfold Ei;rw [Ap (by simp;omega),Bm default (by omega),Int.toNat_natCast,Jy (by simp;omega),ckb (by omega)];have:=ih N (i+1) (acc++[(y.1.getD i default).Speed]) (by omega) (by omega) (by simp;omega);rw [Int.natCast_add] at this;refine Eq.trans this ?_;rw [Bk (i:=i) (by omega) default];simp
def rX (t:zH) (s:zN) (mst:Int) (a i:Nat):List zD:=(aX t s mst a i).map conv
theorem Mw {α:Type} (f:Nat→α) (i:Nat):(List.range i).map f++[f i]=(List.range (i+1)).map f:=by
 rw [List.range_succ,List.map_append];rfl
theorem B6w {a i:Nat}:sX t s mst a i=un ((aX t s mst a i).map (·.Speed)):=by
 unfold sX aX
 split
 ·rfl
 ·exact (B3f Xf.1).symm
theorem B29 (hF:FF≤F) (ht:Fi t=0) (hv:∀a<n,∀i<m,Kx (gX s a i)=0) (hm:1≤mst∧mst≤200000) (hl:s.Rays.length=n) {a:Nat} (ha:a<n) (hn:n≤1000) (hmm:m≤1000) (hr:(s.Rays.getD a []).length=m)
  (A:List (List (List zA))) (B:List (List (List zD))) (hA:A.length≤1000) (hB:B.length≤1000) (k11:List (List (List zA))→List (List (List zD))→Int→Option (List (List zG)×Int)):∀(q N i:Nat),i+q=m→q<N →
  rowD t s mst a i m (By F t s mst A B (a:Int) k11 N ((List.range i).map (sX t s mst a)) ((List.range i).map (rX t s mst a)) (i:Int)) (k11 (A++[(List.range m).map (sX t s mst a)]) (B++[(List.range m).map (rX t s mst a)]) ((a+1:Nat):Int)) (some ([],9)):=by
 have hF1:=hF;unfold FF at hF1;intro q
 induction q with
 | zero =>
  intro N i hi hN;obtain ⟨N,rfl⟩:∃N',N=N'+1:=⟨N-1,by omega⟩;obtain rfl:i=m:=by omega
  refine rowD.end_ ?_ (Nat.le_refl _);show Eh F t s mst A B (a:Int) k11 (By F t s mst A B (a:Int) k11 N) _ _ (i:Int)=_;unfold Eh Ki Kh;rw [Bm [] (by omega),Int.toNat_natCast,An (dF (by omega)),Jy (by simp;omega),Jy (by simp;omega),ckb (by omega)];rfl
 | succ q ih =>
  intro N i hi hN;obtain ⟨N,rfl⟩:∃N',N=N'+1:=⟨N-1,by omega⟩;have ihd:=ih N (i+1) (by omega) (by omega);have hx:(s.Rays.getD a []).getD i default=gX s a i:=rfl;have hst:By F t s mst A B (a:Int) k11 (N+1) ((List.range i).map (sX t s mst a)) ((List.range i).map (rX t s mst a)) (i:Int)=Eh F t s mst A B (a:Int) k11 (By F t s mst A B (a:Int) k11 N) ((List.range i).map (sX t s mst a)) ((List.range i).map (rX t s mst a)) (i:Int):=rfl;rw [hst];unfold Eh;rw [Bm [] (by omega),Int.toNat_natCast,Ap (dT (by omega)),Bm [] (by omega),Int.toNat_natCast,Bm default (by omega),Int.toNat_natCast,hx,Hk];rcases B5d (F:=F) (by omega) ht hm (hv a ha i (by omega)) with ⟨hb,hgl⟩|⟨hb,e,he,hgl⟩
  ·rw [hgl,sb,Ap (by rfl)];exact rowD.stop_ rfl (by omega) hb
  ·refine Eq.mp (congrArg (fun r=>rowD t s mst a i m r _ _) (Eq.symm ?_)) (ihd.step hb);have hax:(if (gX s a i).Kind=3 then gl t (gX s a i) mst else [])=aX t s mst a i:=rfl;rw [hgl,sb,An (by simpa using he),hax];have hlen:(aX t s mst a i).length≤129*129:=by
    unfold aX
    split
    ·exact Xe
    ·simp
   have h4:=B0e (F:=F) ((List.range i).map (sX t s mst a)) ((List.range i).map (rX t s mst a)) (i:Int) (By F t s mst A B (a:Int) k11 N) ((aX t s mst a i).map conv,e) (by simp only [List.length_map];omega) (aX t s mst a i).length F 0 [] (by simp) (by omega) (by simp;omega);refine Eq.trans h4 ?_;have hmm2:((aX t s mst a i).map conv).map (·.Speed)=(aX t s mst a i).map (·.Speed):=by rw [List.map_map];rfl
   have hval:valid ((aX t s mst a i).map (·.Speed)):=by
    intro p hp;obtain ⟨g,hg,rfl⟩:=List.mem_map.1 hp;unfold aX at hg
    split at hg
    ·exact (A5f hg).1
    ·cases hg
   unfold Hw Kj;rw [List.drop_zero,List.nil_append,hmm2,Nc hF hval (by rw [List.length_map];omega),sb,Jy (by simp;omega),Jy (by simp;omega),ckb (by omega),←B6w];rw [Mw (sX t s mst a) i,show ((aX t s mst a i).map conv,e).1=rX t s mst a i from rfl,Mw (rX t s mst a) i];rfl
theorem B5g (hF:FF≤F) (ht:Fi t=0) (hv:∀a<n,∀i<m,Kx (gX s a i)=0) (hm:1≤mst∧mst≤200000) (hl:s.Rays.length=n) (hn:n≤1000) (hmm:m≤1000) (hr:∀a<n,(s.Rays.getD a []).length=m):∀(q N a:Nat),a+q=n→q<N →
  raysD t s mst a n m (Bo F t s mst jp br N ((List.range a).map fun b=>(List.range m).map (sX t s mst b)) ((List.range a).map fun b=>(List.range m).map (rX t s mst b)) (a:Int)) (Jg F s jp br (SX t s mst n m) ((List.range n).map fun a=>(List.range m).map (rX t s mst a))) (some ([],9)):=by
 have hF1:=hF;unfold FF at hF1;intro q
 induction q with
 | zero =>
  intro N a hi hN;obtain ⟨N,rfl⟩:∃N',N=N'+1:=⟨N-1,by omega⟩;obtain rfl:a=n:=by omega
  refine raysD.end_ ?_ (Nat.le_refl _);show Eg F t s mst jp br (Bo F t s mst jp br N) _ _ (a:Int)=_;unfold Eg;rw [An (dF (by omega))];rfl
 | succ q ih =>
  intro N a hi hN;obtain ⟨N,rfl⟩:∃N',N=N'+1:=⟨N-1,by omega⟩;have ihd:=ih N (a+1) (by omega) (by omega);have h1:=B29 (F:=F) hF ht hv hm hl (by omega:a<n) hn hmm (hr a (by omega)) ((List.range a).map fun b=>(List.range m).map (sX t s mst b)) ((List.range a).map fun b=>(List.range m).map (rX t s mst b)) (by simp;omega) (by simp;omega) (Bo F t s mst jp br N) m F 0 (by omega) (by omega);rw [Mw (fun b=>(List.range m).map (sX t s mst b)) a,Mw (fun b=>(List.range m).map (rX t s mst b)) a] at h1;have hst:Bo F t s mst jp br (N+1) ((List.range a).map fun b=>(List.range m).map (sX t s mst b)) ((List.range a).map fun b=>(List.range m).map (rX t s mst b)) (a:Int)=By F t s mst ((List.range a).map fun b=>(List.range m).map (sX t s mst b)) ((List.range a).map fun b=>(List.range m).map (rX t s mst b)) (a:Int) (Bo F t s mst jp br N) F [] [] 0:=by
   show Eg F t s mst jp br (Bo F t s mst jp br N) _ _ (a:Int)=_;unfold Eg;rw [Ap (dT (by omega))]
  rw [hst];rcases h1 with ⟨b1,h1⟩|⟨b1,h1⟩
  ·exact Eq.mp (congrArg (fun r=>raysD t s mst a n m r _ _) (Eq.symm h1)) (ihd.step b1)
  ·exact raysD.stop_ h1 (by omega) b1
def oR (t:zH) (s:zN) (mst:Int) (G:Rays) (a i:Nat):zG:=Ft (oX t s mst G a i)
theorem B6p (hF:FF≤F) (hm:1≤mst∧mst≤200000) (hG:AllG G) (hS:Shape G n m) (hl:s.Rays.length=n) {a:Nat} (ha:a<n) (hn:n≤1000) (hmm:m≤1000) (hr:(s.Rays.getD a []).length=m)
  (O:List (List zG)) (hO:O.length≤1000) (k6:List (List zG)→Int→Option (List (List zG)×Int)):∀(q N i:Nat),i+q=m→q<N →
  E9 F s ((List.range n).map fun a=>(List.range m).map (rX t s mst a)) G O (a:Int) k6 N ((List.range i).map (oR t s mst G a)) (i:Int)=k6 (O++[(List.range m).map (oR t s mst G a)]) ((a+1:Nat):Int):=by
 intro q
 induction q with
 | zero =>
  intro N i hi hN;obtain ⟨N,rfl⟩:∃N',N=N'+1:=⟨N-1,by omega⟩;obtain rfl:i=m:=by omega
  show Fa F s _ G O (a:Int) k6 (E9 F s _ G O (a:Int) k6 N) _ (i:Int)=_;unfold Fa Lg Lf;rw [Bm [] (by omega),Int.toNat_natCast,An (dF (by omega)),Jy (by simp;omega),ckb (by omega)];rfl
 | succ q ih =>
  intro N i hi hN;obtain ⟨N,rfl⟩:∃N',N=N'+1:=⟨N-1,by omega⟩;have ihh:=ih N (i+1) (by omega) (by omega);rw [Int.natCast_add] at ihh;have hx:(s.Rays.getD a []).getD i default=gX s a i:=rfl;show Fa F s _ G O (a:Int) k6 (E9 F s _ G O (a:Int) k6 N) _ (i:Int)=_;unfold Fa;have hK:∀(o:zG),o=oR t s mst G a i→G1 ((List.range i).map (oR t s mst G a)) (i:Int) (E9 F s ((List.range n).map fun a=>(List.range m).map (rX t s mst a)) G O (a:Int) k6 N) o.State o.Guesses=k6 (O++[(List.range m).map (oR t s mst G a)]) ((a+1:Nat):Int):=by
   rintro o rfl;unfold G1;rw [Jy (by simp;omega),ckb (by omega)];rw [show (zG.mk (oR t s mst G a i).State (oR t s mst G a i).Guesses)=oR t s mst G a i from rfl,Mw (oR t s mst G a) i];exact ihh
  rw [Bm [] (by omega),Int.toNat_natCast,Ap (dT (by omega)),Bm [] (by omega),Int.toNat_natCast,Bm default (by omega),Int.toNat_natCast,hx]
  by_cases h3:(gX s a i).Kind=3
  ·have hrow:=hS.row ha;have hlen:=Xe (t:=t) (x:=gX s a i) (m:=mst);rw [Ap (by simpa using h3),B35 ha,B34 (by omega:i<m),Bm [] (by rw [hS.1];omega),Int.toNat_natCast,Bm [] (by rw [hrow];omega),Int.toNat_natCast];have e1:rX t s mst a i=(gl t (gX s a i) mst).map conv:=by unfold rX aX;rw [if_pos h3]
   have e2:(G.getD a []).getD i []=gf G (a,i):=rfl;rw [e1,e2,A8y hF (hG.good (a,i)) (by omega),sb];exact hK _ (by unfold oR oX;rw [if_pos h3])
  ·rw [An (by simpa using h3)];exact hK ⟨1,[]⟩ (by unfold oR oX;rw [if_neg h3];rfl)
theorem B5f (hF:FF≤F) (hm:1≤mst∧mst≤200000) (hG:AllG G) (hS:Shape G n m) (hl:s.Rays.length=n) (hn:n≤1000) (hmm:m≤1000) (hr:∀a<n,(s.Rays.getD a []).length=m):∀(q N a:Nat),a+q=n→q<N →
  E8 F s ((List.range n).map fun a=>(List.range m).map (rX t s mst a)) G N ((List.range a).map fun a=>(List.range m).map (oR t s mst G a)) (a:Int)=some ((List.range n).map fun a=>(List.range m).map (oR t s mst G a),0):=by
 have hF1:=hF;unfold FF at hF1;intro q
 induction q with
 | zero =>
  intro N a hi hN;obtain ⟨N,rfl⟩:∃N',N=N'+1:=⟨N-1,by omega⟩;obtain rfl:a=n:=by omega
  show F9 F s _ G (E8 F s _ G N) _ (a:Int)=_;unfold F9 Le;rw [An (dF (by omega))]
 | succ q ih =>
  intro N a hi hN;obtain ⟨N,rfl⟩:∃N',N=N'+1:=⟨N-1,by omega⟩;show F9 F s _ G (E8 F s _ G N) _ (a:Int)=_;unfold F9;rw [Ap (dT (by omega))];refine Eq.trans (B6p hF hm hG hS hl (by omega:a<n) hn hmm (hr a (by omega)) _ (by simp;omega) (E8 F s ((List.range n).map fun a=>(List.range m).map (rX t s mst a)) G N) m F 0 (by omega) (by omega)) ?_;rw [Mw (fun a=>(List.range m).map (oR t s mst G a)) a];exact ih N (a+1) (by omega) (by omega)
end
theorem A1l:(default:zE).Kind≠3:=by decide
section
variable {F:Nat} {t:zH} {s:zN} {mst jp br:Int}
theorem B4n {G:Rays} {a i:Nat}:(oX t s mst G a i).Guesses.length≤129*129:=by
 unfold oX
 split
 ·have h:=Xe (t:=t) (x:=gX s a i) (m:=mst);have h2:=List.length_filterMap_le (Xk (gf G (a,i))) (gl t (gX s a i) mst);show ((gl t (gX s a i) mst).filterMap (Xk (gf G (a,i)))).length≤129*129;omega
 ·simp
structure Same (X:List (List zK)):Prop where
 rows:X.length≤1000
 gates:∀r∈X,r.length≤1000
 few:∀r∈X,∀f∈r,f.Guesses.length≤129*129
theorem Same.nil:Same []:=⟨by simp,by simp,by simp⟩
theorem A32 (hF:FS≤F) (ht:Fi t=0) (hs:Qv F s=some 0) (hm:1≤mst∧mst≤200000) (hj:0≤jp∧jp≤400000) (hb:1≤br∧br≤16) (hn:s.Rays.length≤8) (h6:∀r∈s.Rays,r.length≤6) :
  ∃X e,D8 F (pt t) s mst jp br F (List.replicate s.Rays.length []) (List.replicate s.Rays.length []) 0=some (X,e)∧Bo F t s mst jp br F [] [] 0=some (X.map (·.map Ft),e)∧Same X:=by
 have hF2:FF≤F:=by unfold FS at hF;unfold FF;omega
 have hF1:=hF2;unfold FF at hF1;obtain ⟨hg,he⟩:=B0r hs;obtain ⟨n,hl⟩:∃n,s.Rays.length=n:=⟨_,rfl⟩;obtain ⟨m,hmd⟩:∃m,(s.Rays.getD 0 []).length=m:=⟨_,rfl⟩;have hmem:∀a<n,s.Rays.getD a []∈s.Rays:=fun a ha=>by
  rw [List.getD_eq_getElem?_getD,List.getElem?_eq_getElem (by omega:a<s.Rays.length)];exact List.getElem_mem _
 have hmm:m≤1000:=by
  by_cases h0:0<n
  ·have:=h6 _ (hmem 0 h0);omega
  ·have:s.Rays=[]:=List.eq_nil_of_length_eq_zero (by omega);rw [this] at hmd;simp at hmd;omega
 have hr:∀a<n,(s.Rays.getD a []).length=m:=fun a ha=>by
  have h1:=hg _ (hmem a ha);have h2:=hg _ (hmem 0 (by omega));omega
 have hv2:∀a<n,∀i<m,Kx (gX s a i)=0:=fun a ha i hi=>by
  refine he _ (hmem a ha) _ ?_;unfold gX;rw [List.getD_eq_getElem?_getD (l:=s.Rays.getD a []),List.getElem?_eq_getElem (by rw [hr a ha];exact hi)];exact List.getElem_mem _
 have hv:∀a i,(gX s a i).Kind=3→Kx (gX s a i)=0:=fun a i h3=>by
  by_cases ha:a<n
  ·by_cases hi:i<m
   ·exact hv2 a ha i hi
   ·exfalso;unfold gX at h3;rw [List.getD_eq_getElem?_getD (l:=s.Rays.getD a []),List.getElem?_eq_none (by rw [hr a ha];omega)] at h3;exact A1l h3
  ·exfalso;unfold gX at h3;rw [List.getD_eq_getElem?_getD (l:=s.Rays),List.getElem?_eq_none (by omega)] at h3;exact A1l h3
 have p1:=A4j (jp:=jp) (br:=br) hF2 ht hv hm hl (by omega) hmm hr n F 0 (by omega) (by omega);have q1:=B5g (jp:=jp) (br:=br) hF2 ht hv2 hm hl (by omega) hmm hr n F 0 (by omega) (by omega);rw [A04,A04] at p1;rw [hl];rcases p1 with ⟨pb,p1⟩|⟨pb,p1⟩
 ·rcases q1 with ⟨qb,q1⟩|⟨qb,q1⟩
  ·obtain ⟨G,g1,g2,g3,g4⟩:=A0x (S:=SX t s mst n m) hF A88 (B13 hm) (by omega) hmm hj hb.2;refine ⟨(List.range n).map (fun a=>(List.range m).map (oX t s mst G a)),0,?_,?_,?_⟩
   ·refine Eq.trans p1 ?_;unfold K2;rw [g1,sb,hl,mkb (by omega) (by omega)];have h2:=B0a (t:=t) (mst:=mst) hF2 hm g3.good g3.shape hl (by omega) hmm hr n F 0 (by omega) (by omega);rw [A04] at h2;exact h2
   ·refine Eq.trans q1 ?_;unfold Jg;rw [g2,sb];have h2:=B5f (t:=t) (mst:=mst) hF2 hm g3.good g3.shape hl (by omega) hmm hr n F 0 (by omega) (by omega);refine Eq.trans h2 ?_;rw [List.map_map];have:(fun a=>(List.range m).map (oR t s mst G a))=(fun r=>List.map Ft r)∘fun a=>(List.range m).map (oX t s mst G a):=by
     funext a
     simp only [Function.comp,List.map_map];rfl
    rw [this]
   ·refine ⟨by simp;omega,fun r hr=>?_,fun r hr f hf=>?_⟩
    ·obtain ⟨a,_,rfl⟩:=List.mem_map.1 hr
     simpa using hmm
    ·obtain ⟨a,_,rfl⟩:=List.mem_map.1 hr;obtain ⟨i,_,rfl⟩:=List.mem_map.1 hf;exact B4n
  ·obtain ⟨b,b1,b2,j,b3,b4⟩:=qb;exact absurd b4 (pb b b1 b2 j b3)
 ·rcases q1 with ⟨qb,q1⟩|⟨qb,q1⟩
  ·obtain ⟨b,b1,b2,j,b3,b4⟩:=pb;exact absurd b4 (qb b b1 b2 j b3)
  ·exact ⟨[],9,p1,q1,Same.nil⟩
theorem B2q (hF:FS≤F) (t:zH) (s:zN) (mst jp br:Int) (hn:s.Rays.length≤8) (h6:∀r∈s.Rays,r.length≤6) :
  ∃X e,Ng F (pt t) s mst jp br=some (X,e)∧Mh F t s mst jp br=some (X.map (·.map Ft),e)∧Same X:=by
 have hF2:FF≤F:=by unfold FS at hF;unfold FF;omega
 have hF1:=hF2;unfold FF at hF1;have c0:((0:Int) != 0)=false:=rfl;have c1:((0:Int)==0)=true:=rfl;have hX:s.Rays.length≤1000:=by omega
 have hx:∀r∈s.Rays,r.length≤1000:=fun r hr=>by have:=h6 r hr;omega
 have hK3:∀e:Int,e≠0→Fc F t s mst jp br e=some ([],e):=fun e he=>by
  unfold Fc Fe;rw [An (by simpa using he),Ap (by simpa using he)]
 have hK1:∀e:Int,e≠0→Fb F t s mst jp br e=some ([],e):=fun e he=>by
  unfold Fb;have hz:(e==0)=false:=by simpa using he
  rw [hz,cond_false,cond_false];exact hK3 e he
 unfold Ng Mh;rw [Vs,V3,sb,sb]
 by_cases h1:Fi t=0
 ·rw [h1,c0,c1,An rfl,Ap rfl,B26 F (by omega) s hX hx,B2a F (by omega) s hX hx];obtain ⟨e,he⟩:=A4v (F:=F) (s:=s);rw [he,sb,sb]
  by_cases h2:e=0
  ·subst h2;rw [c0,An rfl];unfold Fb;have hb:Mn mst=decide (1≤mst∧mst≤200000):=by unfold Mn;rw [Bool.eq_iff_iff];simp [cond_eq_ite]
   have hb2:(bif ((0:Int)==0) then (bif (decide (mst<1)) then true else (decide (mst>200000))) else false)=!decide (1≤mst∧mst≤200000):=by
    rw [c1,cond_true,Bool.eq_iff_iff];simp [cond_eq_ite]
   rw [hb,hb2]
   by_cases h3:1≤mst∧mst≤200000
   ·rw [dT h3,Bool.not_true,An rfl,An rfl];unfold Fc;rw [c1,cond_true,show Gs jp br=Fq jp br from rfl]
    by_cases h4:Fq jp br=0
    ·obtain ⟨hj,hbr⟩:=B1q (jp:=jp) (br:=br) h4;unfold Fe;rw [h4,c0,An rfl,An rfl,mkb (by omega) (by omega),mkb (by omega) (by omega)];exact A32 hF h1 he h3 hj hbr hn h6
    ·unfold Fe;rw [Ap (by simpa using h4),Ap (by simpa using h4)];exact ⟨[],_,rfl,rfl,Same.nil⟩
   ·rw [dF h3,Bool.not_false,Ap rfl,Ap rfl,hK3 3 (by omega)];exact ⟨[],3,rfl,rfl,Same.nil⟩
  ·rw [Ap (by simpa using h2),hK1 e h2];exact ⟨[],e,rfl,rfl,Same.nil⟩
 ·rw [Ap (by simpa using h1),An (by simpa using h1),hK1 _ h1];exact ⟨[],_,rfl,rfl,Same.nil⟩
theorem A95 {α:Type} {l:List α} {i:Nat} (h:i<l.length) (d:α):l.getD i d∈l:=by
 rw [List.getD_eq_getElem?_getD,List.getElem?_eq_getElem h];exact List.getElem_mem _
theorem A6x (hF:FS≤F) {X:List (List zK)} (hX:Same X) (e:Int) {a:Nat} (ha:a<X.length) (k3:Int→Option Bool):∀(q N i:Nat),i+q=(X.getD a []).length→q<N →
  Ca F (X,e) (X.map (·.map Ft),e) (a:Int) k3 N (i:Int)=k3 ((a+1:Nat):Int):=by
 have hF1:=hF;unfold FS at hF1;have hrow:(X.map (·.map Ft)).getD a []=(X.getD a []).map Ft:=Xp _ ha [] [];have hr:=A95 ha ([]:List zK);have hXl:=hX.rows;have hgl:=hX.gates _ hr;intro q
 induction q with
 | zero =>
  intro N i hi hN;obtain ⟨N,rfl⟩:∃N',N=N'+1:=⟨N-1,by omega⟩;show C8 F (X,e) (X.map (·.map Ft),e) (a:Int) k3 (Ca F (X,e) (X.map (·.map Ft),e) (a:Int) k3 N) (i:Int)=_;unfold C8 Gr;simp only;rw [Bm [] (by omega),Int.toNat_natCast,An (dF (by omega)),ckb (by omega)];rfl
 | succ q ih =>
  intro N i hi hN;obtain ⟨N,rfl⟩:∃N',N=N'+1:=⟨N-1,by omega⟩;have:=ih N (i+1) (by omega) (by omega);rw [Int.natCast_add] at this;show C8 F (X,e) (X.map (·.map Ft),e) (a:Int) k3 (Ca F (X,e) (X.map (·.map Ft),e) (a:Int) k3 N) (i:Int)=_;unfold C8;simp only;have hml:(X.map (·.map Ft)).length=X.length:=List.length_map ..;have hml2:((X.getD a []).map Ft).length=(X.getD a []).length:=List.length_map ..;obtain ⟨f,hf⟩:∃f,(X.getD a []).getD i default=f:=⟨_,rfl⟩;have hfm:f∈X.getD a []:=by rw [←hf];exact A95 (by omega) _
  have hfew:=hX.few _ hr f hfm;have hfc:((X.getD a []).map Ft).getD i default=Ft f:=by rw [Xp Ft (by omega) default default,hf]
  rw [Bm [] (by omega),Int.toNat_natCast,Ap (dT (by omega)),Bm [] (by omega),Int.toNat_natCast,Bm default (by omega),Int.toNat_natCast,hf,Bm [] (by omega),Int.toNat_natCast,hrow,Bm default (by omega),Int.toNat_natCast,hfc];have hst:(f.State != (Ft f).State)=false:=by simp [Ft]
  rw [hst,An rfl,Bm [] (by omega),Int.toNat_natCast,Bm default (by omega),Int.toNat_natCast,hf,Bm [] (by omega),Int.toNat_natCast,hrow,Bm default (by omega),Int.toNat_natCast,hfc];rw [show (Ft f).Guesses=f.Guesses.map conv from rfl,B4d F f.Guesses hfew (by omega),sb,An (by rfl),ckb (by omega)];exact this
theorem A9c (hF:FS≤F) {X:List (List zK)} (hX:Same X) (e:Int):∀(q N a:Nat),a+q=X.length→q<N →
  Bq F (X,e) (X.map (·.map Ft),e) N (a:Int)=some true:=by
 have hF1:=hF;unfold FS at hF1;have hXl:=hX.rows;intro q
 induction q with
 | zero =>
  intro N a hi hN;obtain ⟨N,rfl⟩:∃N',N=N'+1:=⟨N-1,by omega⟩;show C7 F (X,e) (X.map (·.map Ft),e) (Bq F (X,e) (X.map (·.map Ft),e) N) (a:Int)=_;unfold C7 Gq;simp only;rw [An (dF (by omega))];rfl
 | succ q ih =>
  intro N a hi hN;obtain ⟨N,rfl⟩:∃N',N=N'+1:=⟨N-1,by omega⟩;have hrow:(X.map (·.map Ft)).getD a []=(X.getD a []).map Ft:=Xp _ (by omega) [] [];have hgl:=hX.gates _ (A95 (by omega:a<X.length) ([]:List zK));have hml:(X.map (·.map Ft)).length=X.length:=List.length_map ..;show C7 F (X,e) (X.map (·.map Ft),e) (Bq F (X,e) (X.map (·.map Ft),e) N) (a:Int)=_;unfold C7;simp only;rw [Ap (dT (by omega)),Bm [] (by omega),Int.toNat_natCast,Bm [] (by omega),Int.toNat_natCast,hrow,An (by simp)];refine Eq.trans (A6x hF hX e (by omega:a<X.length) (Bq F (X,e) (X.map (·.map Ft),e) N) (X.getD a []).length F 0 (by omega) (by omega)) ?_;exact ih N (a+1) (by omega) (by omega)
theorem A9a (hF:FS≤F) (t:zH) (s:zN) (mst jp br:Int) (hn:s.Rays.length≤8) (h6:∀r∈s.Rays,r.length≤6):Ez F t s mst jp br=some true:=by
 have hF1:=hF;unfold FS at hF1;obtain ⟨X,e,h1,h2,h3⟩:=B2q hF t s mst jp br hn h6;have hXl:=h3.rows;unfold Ez;rw [show (zR.mk t.Lambda t.Kind t.First t.Second t.Count)=pt t from rfl,h1,sb,h2,sb,An (by simp)];exact A9c hF h3 e X.length F 0 (by omega) (by omega)
theorem A6y (hF:FS≤F) (t:zH) (s:zN) (mst jp br:Int) (hn:s.Rays.length≤8):∀(q N i:Nat),i+q=s.Rays.length→q<N→(∀j<i,(s.Rays.getD j []).length≤6) →
  Cb F t s mst jp br N (i:Int)=some true:=by
 intro q
 induction q with
 | zero =>
  intro N i hi hN h;obtain ⟨N,rfl⟩:∃N',N=N'+1:=⟨N-1,by omega⟩;show C9 F t s mst jp br (Cb F t s mst jp br N) (i:Int)=_;unfold C9;rw [An (dF (by omega))];refine A9a hF t s mst jp br hn fun r hr=>?_;obtain ⟨j,hj,rfl⟩:=List.mem_iff_getElem.1 hr;have:=h j (by omega);rw [List.getD_eq_getElem?_getD,List.getElem?_eq_getElem hj] at this;exact this
 | succ q ih =>
  intro N i hi hN h;obtain ⟨N,rfl⟩:∃N',N=N'+1:=⟨N-1,by omega⟩;show C9 F t s mst jp br (Cb F t s mst jp br N) (i:Int)=_;unfold C9;rw [Ap (dT (by omega)),Bm [] (by omega),Int.toNat_natCast]
  by_cases h7:(s.Rays.getD i []).length≤6
  ·rw [An (dF (by omega)),ckb (by omega)];have:=ih N (i+1) (by omega) (by omega) (fun j hj=>by
    rcases Nat.lt_or_ge j i with h8|h8
    ·exact h j h8
    ·obtain rfl:j=i:=by omega
     exact h7)
   rw [Int.natCast_add] at this;exact this
  ·rw [Ap (dT (by omega))];rfl
end
theorem Wq (F:Nat) (hF:FS≤F) (t:zH) (s:zN) (mst jp br:Int):Gp F t s mst jp br=some true:=by
 have hF1:=hF;unfold FS at hF1;unfold Gp
 by_cases hn:s.Rays.length≤8
 ·rw [An (dF (by omega))];exact A6y hF t s mst jp br hn s.Rays.length F 0 (by omega) (by omega) (fun j hj=>by omega)
 ·rw [Ap (dT (by omega))];rfl
end Go.Proofs.YtbhjgebjojdohaaGreat
