import Derived.Test.YtbhjgebjojdohaaF13XD
set_option linter.unusedVariables false
set_option linter.unusedSimpArgs false
set_option linter.unusedSectionVars false
namespace Go.Proofs.Ytbhjgebjojdohaa
open Go Go.RowKit Go.Eng
set_option maxRecDepth 10000
set_option linter.unusedVariables false
set_option linter.unusedSimpArgs false
theorem ckb {β:Type} {x:Int} {f:Int→Option β} (h:-9000000000000000000≤x∧x≤9000000000000000000):(ck x).bind f=f x:=by
 unfold ck;rw [if_pos (by omega)];rfl
theorem ck1 {x:Int} (h:-9000000000000000000≤x∧x≤9000000000000000000):ck x=some x:=by
 unfold ck;rw [if_pos (by omega)]
theorem gdT {α:Type} {g:Bool} {o:Option α} {d:α} (h:g=true):gd g o d=o:=by subst h;rfl
theorem gdF {α:Type} {g:Bool} {o:Option α} {d:α} (h:g=false):gd g o d=some d:=by subst h;rfl
theorem C9 {α:Type} {c:Bool} {x y:α} (h:c=true):(bif c then x else y)=x:=by rw [h];rfl
theorem B9 {α:Type} {c:Bool} {x y:α} (h:c=false):(bif c then x else y)=y:=by rw [h];rfl
theorem sb {α β:Type} {x:α} {f:α→Option β}:(some x).bind f=f x:=rfl
theorem El {α β:Type} {l:List α} {i:Int} {f:α→Option β} (d:α) (h:0≤i∧i<l.length):(An l i).bind f=f (l.getD i.toNat d):=by
 unfold An;rw [if_pos h.1,List.getElem?_eq_getElem (by omega),List.getD_eq_getElem?_getD,List.getElem?_eq_getElem (by omega)];rfl
theorem Kr {α β:Type} {l k:List α} {B:Nat} {f:List α→Option β} (h:(l.length+k.length)*B≤140737488355328∧l.length+k.length≤9223372036854775807):(apd B l k).bind f=f (l++k):=by
 unfold apd;rw [if_pos h];rfl
def pt (t:ref02_Train):pulse_Train:=⟨t.Lambda,t.Kind,t.First,t.Second,t.Count⟩
def Ln (t:ref02_Train):Bool :=
 decide (10000≤t.Lambda∧t.Lambda≤1000000∧200≤t.First∧t.First≤5000∧t.Count≤64 ∧
  ((t.Kind=1∧t.Second=0∧2≤t.Count)∨(t.Kind=2∧t.Count.tmod 2=0∧4≤t.Count∧200≤t.Second∧t.Second≤5000∧t.First<t.Second) ∨
   (t.Kind=3∧3≤t.Count∧200≤t.Second∧t.Second≤5000∧t.First<t.Second)))
def G8 (t:ref02_Train):Int:=if t.Kind≠1∧t.Kind≠2∧t.Kind≠3 then 2 else if Ln t=true then 0 else 3
theorem B0k (x:Int):Hu x 2=some (x.tmod 2):=rfl
theorem R4 (F:Nat) (t:ref02_Train):E8 F (pt t)=some (G8 t):=by
 unfold E8 D0 E2 G8 Ln A5 pt;simp only [B0k,Option.bind_some]
 by_cases h1:t.Kind=1
 ·simp [h1,cond_eq_ite];grind
 ·by_cases h2:t.Kind=2
  ·simp [h2,cond_eq_ite];grind
  ·by_cases h3:t.Kind=3
   ·simp [h3,cond_eq_ite];grind
   ·simp [h1,h2,h3,cond_eq_ite]
def turnB (s:api_Span):Bool:=decide (-32768≤s.Lo∧s.Lo≤32767∧s.Lo≤s.Hi∧s.Hi≤s.Lo+65535)
theorem Lu (p:List api_Span) (k:Int→Option Bool) (i:Nat) (s:api_Span) (h:p[i]? = some s) (hi:i<1000):Cl p k (i:Int)=if turnB s then k ((i:Int)+1) else some false:=by
 have hl:=(List.getElem?_eq_some_iff.1 h).1;unfold Cl;rw [C9 (by simpa using hl),El s (by omega)];simp only [List.getD_eq_getElem?_getD,Int.toNat_natCast,h,Option.getD_some];unfold turnB A5
 by_cases hw:-32768≤s.Lo∧s.Lo≤32767
 ·have e:(bif decide (-32768≤s.Lo) then decide (s.Lo≤32767) else false)=true:=by simp [hw.1,hw.2]
  rw [e,gdT (g:=(!true)==false&&true) rfl,ckb (by omega),gdT (g:=(!true)==false&&true) rfl,ckb (by omega),ckb (by omega)];have e2:s.Lo+65536-1=s.Lo+65535:=by omega
  rw [e2]
  by_cases h2:s.Lo≤s.Hi∧s.Hi≤s.Lo+65535
  ·rw [if_pos (by simp [hw,h2])];simp [h2]
  ·rw [if_neg (by simp;intro _ _ h3;omega)];have:(bif decide (s.Lo≤s.Hi) then decide (s.Hi≤s.Lo+65535) else false)=false:=by simp [cond_eq_ite];omega
   rw [this];rfl
 ·have e:(bif decide (-32768≤s.Lo) then decide (s.Lo≤32767) else false)=false:=by simp [cond_eq_ite];omega
  rw [e,gdF (g:=(!false)==false&&true) rfl,sb,gdF (g:=(!false)==false&&true) rfl,sb,if_neg (by simp;intro h1 h2;omega)];rfl
theorem Qi (F:Nat) (hF:4≤F) (a b c:api_Span):Jj F [a,b,c]=some (turnB a&&turnB b&&turnB c):=by
 obtain ⟨n,rfl⟩:∃n,F=n+4:=⟨F-4,by omega⟩;show Cl [a,b,c] (D8 [a,b,c] (n+3)) ((0:Nat):Int)=_;rw [Lu _ _ 0 a rfl (by omega)]
 cases ha:turnB a
 ·rfl
 ·show Cl [a,b,c] (D8 [a,b,c] (n+2)) ((1:Nat):Int)=_;rw [Lu _ _ 1 b rfl (by omega)]
  cases hb:turnB b
  ·rfl
  ·show Cl [a,b,c] (D8 [a,b,c] (n+1)) ((2:Nat):Int)=_;rw [Lu _ _ 2 c rfl (by omega)]
   cases hc:turnB c
   ·rfl
   ·rfl
def inB (s:api_Span) (lo hi:Int):Bool:=decide (lo≤s.Lo∧s.Lo≤s.Hi∧s.Hi≤hi)
def noB (s:api_Span):Bool:=decide (s.Lo=0∧s.Hi=0)
def T5 (x:api_Echo):Bool :=
 inB x.Power 0 1073741824&&(if x.Kind=1 then decide (x.Power.Lo=0)&&noB x.Steps.1&&noB x.Steps.2&&decide (x.Spread=0)&&noB x.Ratio&&noB x.Match&&noB x.Turn
  else decide (1≤x.Power.Lo)&&inB x.Ratio 0 1000000&&inB x.Match 0 1000&&decide (0≤x.Spread∧x.Spread≤65535) &&
   (if x.Kind=2 then noB x.Steps.1&&noB x.Steps.2&&noB x.Turn else turnB x.Steps.1&&turnB x.Steps.2&&turnB x.Turn))
def echoE (x:api_Echo):Int:=if x.Kind≠1∧x.Kind≠2∧x.Kind≠3 then 2 else if T5 x=true then 0 else 3
theorem Uc (s:api_Span) (lo hi:Int):A9 s lo hi=inB s lo hi:=by
 unfold A9 inB;rw [Bool.eq_iff_iff];simp [cond_eq_ite];omega
theorem A9t (s:api_Span):(((s.Lo:Int)==0)&&(((s.Hi:Int)==0)&&true))=noB s:=by
 unfold noB;rw [Bool.eq_iff_iff];simp
theorem Tj (s:api_Span):api_Span.mk s.Lo s.Hi=s:=rfl
theorem M0 (p1:api_Echo):(api_Echo.mk p1.Kind p1.Power ((api_Span.mk p1.Steps.1.Lo p1.Steps.1.Hi),(api_Span.mk p1.Steps.2.Lo p1.Steps.2.Hi)) p1.Spread p1.Ratio p1.Match p1.Turn)=p1:=rfl
theorem Yz (F:Nat) (hF:4≤F) (x:api_Echo):Fk F x=some (echoE x):=by
 unfold Fk Bq Ei Bq echoE T5 A5;simp only [Tj,Uc,A9t,Qi F hF,Option.bind_some]
 by_cases h1:x.Kind=1
 ·simp [h1,cond_eq_ite];grind
 ·by_cases h2:x.Kind=2
  ·simp [h2,cond_eq_ite];grind
  ·by_cases h3:x.Kind=3
   ·simp [h3,cond_eq_ite];grind
   ·simp [h1,h2,h3,cond_eq_ite]
theorem Pp {x y:Int} (hx:-4000000000000000000≤x∧x≤4000000000000000000) (hy:0<y):Rf x y=some (x.tdiv y)∧(x.tdiv y≤4000000000000000000∧-4000000000000000000≤x.tdiv y):=by
 have hb:x.tdiv y≤4000000000000000000∧-4000000000000000000≤x.tdiv y:=by
  have h:=Int.natAbs_tdiv_le_natAbs x y;omega
 refine ⟨?_,hb⟩;unfold Rf;rw [if_neg (by omega),ck1 (by omega)]
theorem Nw (x y:Int) (hy:0<y):x/y=if x.tmod y<0 then x.tdiv y-1 else x.tdiv y:=by
 have h1:=Int.tmod_add_mul_tdiv x y;have h2:x.tmod y<y:=by
  rcases Int.le_total 0 x with h|h
  ·exact Int.tmod_lt_of_pos x hy
  ·exact Int.tmod_lt_of_pos x hy
 have h3:-y<x.tmod y:=by
  have:=Int.tmod_lt_of_pos (-x) hy;rw [Int.neg_tmod] at this;omega
 split
 ·rename_i h
  apply Int.le_antisymm
  ·apply Int.le_of_lt_add_one;apply Int.ediv_lt_of_lt_mul hy;have:(x.tdiv y-1+1)*y=y*x.tdiv y:=by rw [Int.sub_add_cancel,Int.mul_comm]
   omega
  ·apply Int.le_ediv_of_mul_le hy;have:(x.tdiv y-1)*y=y*x.tdiv y-y:=by rw [Int.sub_mul,Int.one_mul,Int.mul_comm]
   omega
 ·rename_i h
  apply Int.le_antisymm
  ·apply Int.le_of_lt_add_one;apply Int.ediv_lt_of_lt_mul hy;have:(x.tdiv y+1)*y=y*x.tdiv y+y:=by rw [Int.add_mul,Int.one_mul,Int.mul_comm]
   omega
  ·apply Int.le_ediv_of_mul_le hy;have:x.tdiv y*y=y*x.tdiv y:=Int.mul_comm ..;omega
theorem S5 (F:Nat) {x y:Int} (hx:-4000000000000000000≤x∧x≤4000000000000000000) (hy:0<y):J7 F x y=some (x/y):=by
 obtain ⟨h,hb⟩:=Pp hx hy;have h1:=Int.tmod_add_mul_tdiv x y;have hm:x.tdiv y*y=y*x.tdiv y:=Int.mul_comm ..;have h2:=Int.tmod_lt_of_pos x hy;have h3:x.natAbs.mod y.natAbs≤x.natAbs:=Nat.mod_le _ _;have h4:(x.tmod y).natAbs≤x.natAbs:=by rw [Int.natAbs_tmod];exact h3
 unfold J7;rw [h,sb,ckb (by omega),Nw x y hy]
 by_cases hc:x.tmod y<0
 ·rw [if_pos hc,C9 (by simp;omega),ckb (by omega)]
 ·rw [if_neg hc,B9 (by simp;omega)]
theorem A2t (F:Nat) {x y:Int} (hx:-4000000000000000000≤x∧x≤4000000000000000000) (hy:0<y):Tb F x y=some (x/y):=by
 obtain ⟨h,hb⟩:=Pp hx hy;unfold Tb;rw [h,sb];unfold Hu;rw [if_neg (by omega),sb,Nw x y hy]
 by_cases hc:x.tmod y<0
 ·rw [if_pos hc,C9 (by simpa using hc),ckb (by omega)]
 ·rw [if_neg hc,B9 (by simpa using hc)]
theorem A7j {x y:Int} (hx:-4000000000000000000≤x∧x≤4000000000000000000) (hy:0<y):-4000000000000000001≤x/y∧x/y≤4000000000000000000:=by
 have:=(Pp hx hy).2;rw [Nw x y hy]
 split<;>omega
theorem Mb {x:Int} (hx:-4000000000000000001≤x∧x≤4000000000000000001):IntKind.i64.wrap (0-x)=-x:=by
 rw [Go.Eng.wrap64 (by omega)];omega
theorem A4x (F:Nat) {x y:Int} (hx:-4000000000000000000≤x∧x≤4000000000000000000) (hy:0<y):Mi F x y=some (-(-x/y)):=by
 have:=A7j (x:=-x) (y:=y) (by omega) hy;unfold Mi;rw [Mb (by omega),S5 F (by omega) hy,sb,Mb (by omega)]
end Go.Proofs.Ytbhjgebjojdohaa
namespace Go.Proofs.Ytbhjgebjojdohaa
open Go Go.RowKit Go.Eng
set_option maxRecDepth 10000
set_option linter.unusedVariables false
set_option linter.unusedSimpArgs false
def A0d (t:ref02_Train) (w:Int):Int×Int :=
 if G8 t≠0 then (0,G8 t) else if w=0 then (t.First,0) else if w=1∧t.Kind≠1 then (t.Second,0) else (0,2)
theorem Uu {t:ref02_Train} (h:G8 t=0):Ln t=true:=by
 unfold G8 at h
 split at h
 ·cases h
 ·split at h
  ·assumption
  ·cases h
theorem Z0 (F:Nat) (t:ref02_Train) (w:Int):F6 F (pt t) w=some (A0d t w):=by
 unfold F6 A0d;rw [R4,sb]
 by_cases h:G8 t=0
 ·have hk:=Uu h;unfold Ln at hk;simp only [decide_eq_true_eq] at hk;simp only [h,A5,pt];have hF:t.First≠0:=by omega
  by_cases h0:w=0
  ·subst h0;simp [hF,cond_eq_ite]
  ·by_cases h1:w=1
   ·subst h1
    by_cases hs:t.Kind=1
    ·have:t.Second=0:=by omega
     simp [hs,this,cond_eq_ite]
    ·have:t.Second≠0:=by omega
     simp [hs,this,cond_eq_ite]
   ·have e:(bif decide (0≤w) then decide (w≤1) else false)=false:=by simp [cond_eq_ite];omega
    rw [e];simp [h0,h1,cond_eq_ite]
 ·rw [C9 (by simpa using h),if_pos h]
def us (t:ref02_Train) (w:Int):Int:=if w=0 then t.First else t.Second
def spd (t:ref02_Train) (w:Int) (s:api_Span) (k:Int):api_Span :=
 ⟨500*t.Lambda*(s.Lo+k*65536)/(65536*us t w),-(-(500*t.Lambda*(s.Hi+k*65536))/(65536*us t w))⟩
def hasT (t:ref02_Train) (w:Int):Prop:=G8 t=0∧(w=0∨(w=1∧t.Kind≠1))
theorem hasT.time {t:ref02_Train} {w:Int} (h:hasT t w):A0d t w=(us t w,0)∧200≤us t w∧us t w≤5000∧10000≤t.Lambda∧t.Lambda≤1000000:=by
 obtain ⟨h1,h2⟩:=h;have hk:=Uu h1;unfold Ln at hk;simp only [decide_eq_true_eq] at hk;unfold A0d us;rw [if_neg (by simpa using h1)];rcases h2 with rfl|⟨rfl,h2⟩
 ·simp;omega
 ·simp [h2];omega
theorem A08 {L p:Int} (hL:10000≤L∧L≤1000000) (hp:-5000000≤p∧p≤5000000):-4000000000000000000≤500*L*p∧500*L*p≤4000000000000000000:=by
 have h1:500*L*p≤500*L*5000000:=Int.mul_le_mul_of_nonneg_left hp.2 (by omega);have h2:500*L*(-5000000)≤500*L*p:=Int.mul_le_mul_of_nonneg_left hp.1 (by omega);omega
theorem R3 (F:Nat) {t:ref02_Train} {w k:Int} {s:api_Span} (h:hasT t w) (hs:inB s (-131072) 131072=true) (hk:-64≤k∧k≤64):Hf F (pt t) w s k=some (spd t w s k,0):=by
 obtain ⟨ht,hu1,hu2,hL⟩:=h.time;have hs':=hs;unfold inB at hs';simp only [decide_eq_true_eq] at hs';have b1:=A08 (p:=s.Lo+k*65536) hL (by omega);have b2:=A08 (p:=s.Hi+k*65536) hL (by omega);have hw:A5 k (-64) 64=true:=by unfold A5;simp [hk]
 unfold Hf;rw [Z0,sb,ht];simp only [Uc,hs,hw];refine Eq.trans (B9 rfl) (Eq.trans (B9 rfl) ?_);unfold Ez F1;simp only [pt];rw [ckb (by omega),ckb (by omega),ckb (by omega),ckb (by omega),ckb (by omega),S5 F (by omega) (by omega),sb,sb,ckb (by omega),ckb (by omega),ckb (by omega),ckb (by omega),ckb (by omega),A4x F (by omega) (by omega),sb,sb];rfl
def Gq (a b:api_Span):api_Span:=⟨if b.Lo>a.Lo then b.Lo else a.Lo,if b.Hi<a.Hi then b.Hi else a.Hi⟩
theorem M4 (a b:api_Span):A3 a b=(Gq a b,decide ((Gq a b).Lo≤(Gq a b).Hi)):=rfl
def stepOf (x:api_Echo) (w:Int):api_Span:=if w=0 then x.Steps.1 else x.Steps.2
def spw (t:ref02_Train) (x:api_Echo) (m:Int) (w k:Int):api_Span:=Gq (spd t w (stepOf x w) k) ⟨-m,m⟩
def isw (t:ref02_Train) (x:api_Echo) (m:Int) (w k:Int):Bool:=decide ((spw t x m w k).Lo≤(spw t x m w k).Hi)
theorem W8 {x:api_Echo} (h:echoE x=0) (hk:x.Kind=3) (w:Int):inB (stepOf x w) (-131072) 131072=true:=by
 unfold echoE at h;rw [if_neg (by omega)] at h;have h2:T5 x=true:=by
  split at h
  ·assumption
  ·cases h
 unfold T5 at h2;rw [if_neg (by omega),if_neg (by omega)] at h2;simp only [Bool.and_eq_true] at h2;unfold turnB inB stepOf at *;simp only [decide_eq_true_eq] at *
 split<;>omega
end Go.Proofs.Ytbhjgebjojdohaa
namespace Go.Proofs.Ytbhjgebjojdohaa
open Go Go.RowKit Go.Eng
set_option maxRecDepth 10000
set_option linter.unusedVariables false
set_option linter.unusedSimpArgs false
def kr:Nat→Int→List Int
 | 0,_=>[]
 | n+1,x=>x::kr n (x+1)
theorem A7y:∀{n:Nat} {x y:Int},y∈kr n x→x≤y∧y<x+n:=by
 intro n
 induction n with
 | zero=>intro x y h;cases h
 | succ n ih =>
  intro x y h;rcases List.mem_cons.1 h with rfl|h
  ·omega
  ·have:=ih h;omega
theorem A7x:∀(n:Nat) (x:Int),(kr n x).length=n:=by
 intro n
 induction n with
 | zero=>intro x;rfl
 | succ n ih=>intro x;simp [kr,ih]
section
variable {t:ref02_Train} {x:api_Echo} {m w:Int}
def og (t:ref02_Train) (x:api_Echo) (m w k:Int):Option fold_option:=if isw t x m w k=true then some ⟨k,spw t x m w k⟩ else none
theorem A4d {σ:Type} (F:Nat) (body:σ→fold_option→Option (σ×Bool)) (k1:Int→σ→Option (σ×Bool)) (h:hasT t w) (hs:∀w,inB (stepOf x w) (-131072) 131072=true) (hm:1≤m∧m≤200000) {k:Int} (hk:-64≤k∧k≤64) (s:σ) :
  C2 F body (pt t) w x m k1 k s=bif isw t x m w k then (body s ⟨k,spw t x m w k⟩).bind (fun q=>bif q.2 then k1 (k+1) q.1 else some (q.1,false)) else k1 (k+1) s:=by
 have hn:IntKind.i64.wrap (0-m)=-m:=Mb (by omega);have hc:∀{β:Type} (f:Int→Option β),(ck (k+1)).bind f=f (k+1):=fun f=>ckb (by omega);unfold C2;rw [C9 (by simpa using hk.2)];rcases h.2 with rfl|⟨rfl,h2⟩
 ·refine Eq.trans (C9 rfl) ?_;rw [Tj,show x.Steps.1=stepOf x 0 from rfl,R3 F h (hs 0) hk,sb,hn];simp only [hc];rfl
 ·refine Eq.trans (B9 rfl) (Eq.trans (C9 rfl) ?_);rw [Tj,show x.Steps.2=stepOf x 1 from rfl,R3 F h (hs 1) hk,sb,hn];simp only [hc];rfl
theorem A9f (l:List fold_option) (o:fold_option) (h:l.length≤1000):D9 (l,0) o=some ((l++[o],0),true):=by
 unfold D9;rw [Kr (by simp;omega)]
theorem A4c (F:Nat) (h:hasT t w) (hs:∀w,inB (stepOf x w) (-131072) 131072=true) (hm:1≤m∧m≤200000):∀(n:Nat) (N:Nat) (k:Int) (l:List fold_option),k+n=65→-64≤k→n<N→l.length+n≤1000 →
  Cp F D9 (pt t) w x m N k (l,0)=some ((l++(kr n k).filterMap (og t x m w),0),true):=by
 intro n
 induction n with
 | zero =>
  intro N k l hk hk2 hN hl;obtain ⟨N,rfl⟩:∃N',N=N'+1:=⟨N-1,by omega⟩;show C2 F D9 (pt t) w x m (Cp F D9 (pt t) w x m N) k (l,0)=_;unfold C2;rw [B9 (by simp;omega)];simp [kr]
 | succ n ih =>
  intro N k l hk hk2 hN hl;obtain ⟨N,rfl⟩:∃N',N=N'+1:=⟨N-1,by omega⟩;show C2 F D9 (pt t) w x m (Cp F D9 (pt t) w x m N) k (l,0)=_;rw [A4d F _ _ h hs hm (by omega)]
  cases hw:isw t x m w k with
  | true =>
   rw [cond_true,A9f l _ (by omega),sb];refine Eq.trans (C9 rfl) ?_;rw [ih N (k+1) _ (by omega) (by omega) (by omega) (by simp;omega)];simp [kr,og,hw]
  | false =>
   rw [cond_false,ih N (k+1) _ (by omega) (by omega) (by omega) (by omega)];simp [kr,og,hw]
def Kc (t:ref02_Train) (x:api_Echo) (m w:Int):List fold_option:=(kr 129 (-64)).filterMap (og t x m w)
theorem L5:(Kc t x m w).length≤129:=by
 have:=List.length_filterMap_le (og t x m w) (kr 129 (-64));rw [A7x] at this;exact this
theorem A3y {k:Int} {o:fold_option} (h:og t x m w k=some o):o.whole=k:=by
 unfold og at h
 split at h
 ·cases h;rfl
 ·cases h
theorem A8j {l:List Int} {o:fold_option} (h:o∈l.filterMap (og t x m w)):o.whole∈l:=by
 obtain ⟨k,hk,ho⟩:=List.mem_filterMap.1 h;rw [A3y ho];exact hk
theorem Yx:Kc t x m w=(og t x m w (-64)).toList++(kr 127 (-63)).filterMap (og t x m w)++(og t x m w 64).toList:=by
 unfold Kc;rw [show kr 129 (-64)=[-64]++kr 127 (-63)++[64] from by kernel_rfl,List.filterMap_append,List.filterMap_append]
 cases h:og t x m w (-64)<;>cases h2:og t x m w 64<;>simp [h,h2]
theorem Zx (F:Nat) (hF:200≤F) (h:hasT t w) (hs:∀w,inB (stepOf x w) (-131072) 131072=true) (hm:1≤m∧m≤200000) :
  K6 F (pt t) x w m=some (if isw t x m w (-64)=true∨isw t x m w 64=true then ([],false) else (Kc t x m w,true)):=by
 unfold K6;rw [M0];unfold Hp;rw [A4c F h hs hm 129 F (-64) [] (by omega) (by omega) (by omega) (by simp),sb];refine Eq.trans (C9 rfl) ?_;simp only [List.nil_append];rw [show (kr 129 (-64)).filterMap (og t x m w)=Kc t x m w from rfl];have hlen:=L5 (t:=t) (x:=x) (m:=m) (w:=w);have hmid:∀o∈(kr 127 (-63)).filterMap (og t x m w),-63≤o.whole∧o.whole≤63:=fun o ho=>by
  have:=A7y (A8j ho);omega
 have hsp:=Yx (t:=t) (x:=x) (m:=m) (w:=w);generalize Kc t x m w=L at *;generalize (kr 127 (-63)).filterMap (og t x m w)=M at *
 cases h1:isw t x m w (-64) with
 | true =>
  have e1:og t x m w (-64)=some ⟨-64,spw t x m w (-64)⟩:=by unfold og;rw [if_pos h1]
  rw [e1] at hsp;have hsp2:L=⟨-64,spw t x m w (-64)⟩::(M++(og t x m w 64).toList):=by rw [hsp];rfl
  have hpos:decide (((L.length:Nat):Int)>0)=true:=by rw [hsp2];simp;omega
  have hll:0<L.length:=by rw [hsp2];simp
  have hu:L.getD (0:Int).toNat default=⟨-64,spw t x m w (-64)⟩:=by rw [hsp2];rfl
  simp only [hpos];have hw':((L.getD (0:Int).toNat default).whole == -64)=true:=by rw [hu];rfl
  rw [gdT (g:=true==true&&true) rfl,El default (by omega),hw',gdF (g:=true==false&&(true==true&&true)) rfl,sb,gdF (g:=true==false&&(true==true&&true)) rfl,sb,if_pos (Or.inl trivial)];rfl
 | false =>
  have e1:og t x m w (-64)=none:=by unfold og;rw [if_neg (by simp [h1])]
  rw [e1] at hsp;simp only [Option.toList,List.nil_append] at hsp
  cases h2:isw t x m w 64 with
  | true =>
   have e2:og t x m w 64=some ⟨64,spw t x m w 64⟩:=by unfold og;rw [if_pos h2]
   rw [e2] at hsp;simp only at hsp;have hll:0<L.length:=by rw [hsp];simp
   obtain ⟨u,hu,hm'⟩:∃u,L.getD 0 default=u∧u∈L:=⟨_,rfl,by rw [List.getD_eq_getElem?_getD,List.getElem?_eq_getElem hll];exact List.getElem_mem hll⟩;have huw:u.whole≠-64:=by
    rw [hsp] at hm';rcases List.mem_append.1 hm' with h|h
    ·have:=hmid _ h;omega
    ·simp at h;rw [h];simp
   have hpos:decide (((L.length:Nat):Int)>0)=true:=by simp;omega
   have hu':L.getD (0:Int).toNat default=u:=hu;have huw':(u.whole == -64)=false:=by simpa using huw
   simp only [hpos];rw [gdT (g:=true==true&&true) rfl,El default (by omega),hu',huw',gdT (g:=false==false&&(true==true&&true)) rfl,ckb (by omega),gdT (g:=false==false&&(true==true&&true)) rfl,El default (by omega),if_pos (Or.inr trivial)];refine Eq.trans (C9 ?_) rfl;refine Eq.trans (C9 rfl) (Eq.trans (B9 rfl) ?_);have e3:((L.length:Int)-1).toNat=M.length:=by rw [hsp];simp
   rw [e3,hsp];simp [List.getD_eq_getElem?_getD]
  | false =>
   have e2:og t x m w 64=none:=by unfold og;rw [if_neg (by simp [h2])]
   rw [e2] at hsp;simp only [List.append_nil] at hsp;subst hsp;rw [if_neg (by simp)]
   by_cases hll:0<L.length
   ·have hin:∀i,i<L.length→(L.getD i default).whole≠-64∧(L.getD i default).whole≠64:=fun i hi=>by
     have:L.getD i default∈L:=by rw [List.getD_eq_getElem?_getD,List.getElem?_eq_getElem hi];exact List.getElem_mem hi
     have:=hmid _ this;omega
    have ha:=(hin 0 hll).1;have hb:=(hin (L.length-1) (by omega)).2;have hpos:decide (((L.length:Nat):Int)>0)=true:=by simp;omega
    have ha':((L.getD (0:Int).toNat default).whole == -64)=false:=by simpa using ha
    have hb':((L.getD (L.length-1) default).whole==64)=false:=by simpa using hb
    have e3:((L.length:Int)-1).toNat=L.length-1:=by omega
    simp only [hpos];rw [gdT (g:=true==true&&true) rfl,El default (by omega),ha',gdT (g:=false==false&&(true==true&&true)) rfl,ckb (by omega),gdT (g:=false==false&&(true==true&&true)) rfl,El default (by omega),e3,hb'];rfl
   ·have:L=[]:=List.length_eq_zero_iff.1 (by omega);subst this;rfl
end
end Go.Proofs.Ytbhjgebjojdohaa
namespace Go.Proofs.Ytbhjgebjojdohaa
open Go Go.RowKit Go.Eng
set_option maxRecDepth 10000
set_option linter.unusedVariables false
set_option linter.unusedSimpArgs false
def Jq (s:api_Span):Bool:=decide (s.Lo≤s.Hi)
def gg (u s:fold_option):Option fold_Guess:=if Jq (Gq u.speed s.speed)=true then some ⟨(u.whole,s.whole),Gq u.speed s.speed⟩ else none
theorem Dm {α:Type} {l:List α} {i:Nat} (h:i<l.length) (d:α):l.drop i=l.getD i d::l.drop (i+1):=by
 rw [List.drop_eq_getElem_cons h,List.getD_eq_getElem?_getD,List.getElem?_eq_getElem h];rfl
theorem A4b (y4:List fold_option×Bool) (hl4:y4.1.length≤1000):∀(n N i:Nat) (acc:List fold_Guess),i+n=y4.1.length→n<N→acc.length+n≤1000000 →
  D1 y4 N acc (i:Int)=some (acc++(y4.1.drop i).map (fun f=>⟨(f.whole,0),f.speed⟩),true):=by
 intro n
 induction n with
 | zero =>
  intro N i acc hi hN hacc;obtain ⟨N,rfl⟩:∃N',N=N'+1:=⟨N-1,by omega⟩;show Dv y4 (D1 y4 N) acc (i:Int)=_;unfold Dv;rw [B9 (by simp;omega),List.drop_eq_nil_of_le (by omega)];simp [Gz]
 | succ n ih =>
  intro N i acc hi hN hacc;obtain ⟨N,rfl⟩:∃N',N=N'+1:=⟨N-1,by omega⟩;show Dv y4 (D1 y4 N) acc (i:Int)=_;unfold Dv;rw [C9 (by simp;omega),El default (by omega),Int.toNat_natCast,Kr (by simp;omega),ckb (by omega)];have:=ih N (i+1) (acc++[⟨((y4.1.getD i default).whole,0),(y4.1.getD i default).speed⟩]) (by omega) (by omega) (by simp;omega);rw [Int.natCast_add] at this;refine Eq.trans this ?_;rw [Dm (i:=i) (by omega) default];simp
theorem A29 (y72:List fold_option×Bool) (hl:y72.1.length≤1000) (x8:Int) (k3:List fold_Guess→Int→Option (List fold_Guess×Bool)) (u:fold_option):∀(n N i:Nat) (acc:List fold_Guess),i+n=y72.1.length→n<N→acc.length+n≤1000000 →
  C7 y72 x8 k3 u N acc (i:Int)=Ff x8 k3 (acc++(y72.1.drop i).filterMap (gg u)):=by
 intro n
 induction n with
 | zero =>
  intro N i acc hi hN hacc;obtain ⟨N,rfl⟩:∃N',N=N'+1:=⟨N-1,by omega⟩;show Du y72 x8 k3 u (C7 y72 x8 k3 u N) acc (i:Int)=_;unfold Du;rw [B9 (by simp;omega),List.drop_eq_nil_of_le (by omega)];simp
 | succ n ih =>
  intro N i acc hi hN hacc;obtain ⟨N,rfl⟩:∃N',N=N'+1:=⟨N-1,by omega⟩;show Du y72 x8 k3 u (C7 y72 x8 k3 u N) acc (i:Int)=_;unfold Du;rw [C9 (by simp;omega),El default (by omega),Int.toNat_natCast,M4];unfold Fg;rw [Dm (i:=i) (by omega) default];generalize y72.1.getD i default=v;have hck:∀(l:List fold_Guess),(ck ((i:Int)+1)).bind (fun x934=>C7 y72 x8 k3 u N l x934)=C7 y72 x8 k3 u N l ((i:Int)+1):=fun l=>ckb (by omega);simp only [hck]
  cases hc:Jq (Gq u.speed v.speed) with
  | true =>
   refine Eq.trans (C9 hc) ?_;rw [Kr (by simp;omega)];have:=ih N (i+1) (acc++[⟨(u.whole,v.whole),Gq u.speed v.speed⟩]) (by omega) (by omega) (by simp;omega);rw [Int.natCast_add] at this;refine Eq.trans this ?_;simp [gg,hc]
  | false =>
   refine Eq.trans (B9 hc) ?_;have:=ih N (i+1) acc (by omega) (by omega) (by omega);rw [Int.natCast_add] at this;refine Eq.trans this ?_;simp [gg,hc]
theorem A4w (F:Nat) (hF:2000≤F) (y4 y72:List fold_option×Bool) (hl4:y4.1.length≤200) (hl7:y72.1.length≤200):∀(n N i:Nat) (acc:List fold_Guess),i+n=y4.1.length→n<N→acc.length+n*200≤100000 →
  C6 F y4 y72 N acc (i:Int)=some (acc++(y4.1.drop i).flatMap (fun u=>y72.1.filterMap (gg u)),y72.2):=by
 intro n
 induction n with
 | zero =>
  intro N i acc hi hN hacc;obtain ⟨N,rfl⟩:∃N',N=N'+1:=⟨N-1,by omega⟩;show Dt F y4 y72 (C6 F y4 y72 N) acc (i:Int)=_;unfold Dt;rw [B9 (by simp;omega),List.drop_eq_nil_of_le (by omega)];simp [Gy]
 | succ n ih =>
  intro N i acc hi hN hacc;obtain ⟨N,rfl⟩:∃N',N=N'+1:=⟨N-1,by omega⟩;show Dt F y4 y72 (C6 F y4 y72 N) acc (i:Int)=_;unfold Dt;rw [C9 (by simp;omega),El default (by omega),Int.toNat_natCast];rw [Dm (i:=i) (by omega) default];generalize y4.1.getD i default=u;have h2:=A29 y72 (by omega) (i:Int) (C6 F y4 y72 N) u y72.1.length F 0 acc (by omega) (by omega) (by omega);refine Eq.trans h2 ?_;unfold Ff;rw [ckb (by omega),List.drop_zero];have hlen:=List.length_filterMap_le (gg u) y72.1;have:=ih N (i+1) (acc++y72.1.filterMap (gg u)) (by omega) (by omega) (by simp;omega);rw [Int.natCast_add] at this;refine Eq.trans this ?_;simp
section
variable {t:ref02_Train} {x:api_Echo} {m:Int}
end
end Go.Proofs.Ytbhjgebjojdohaa
namespace Go.Proofs.Ytbhjgebjojdohaa
open Go Go.RowKit Go.Eng
set_option maxRecDepth 10000
set_option linter.unusedVariables false
set_option linter.unusedSimpArgs false
def conv (g:fold_Guess):ref03_Guess:=⟨g.Whole,g.Speed⟩
section
variable {t:ref02_Train} {x:api_Echo} {m:Int}
theorem A4i:(((Kc t x m 0).flatMap (fun u=>(Kc t x m 1).filterMap (gg u)))).length≤129*129:=by
 have h1:=L5 (t:=t) (x:=x) (m:=m) (w:=0);have h2:=L5 (t:=t) (x:=x) (m:=m) (w:=1);generalize Kc t x m 0=L0 at *;generalize Kc t x m 1=L1 at *;have:(L0.flatMap (fun u=>L1.filterMap (gg u))).length≤L0.length*129:=by
  clear h1
  induction L0 with
  | nil=>simp
  | cons a l ih =>
   have:=List.length_filterMap_le (gg a) L1;simp [Nat.add_mul] at ih ⊢;omega
 omega
def A2m (t:ref02_Train) (x:api_Echo) (m w:Int):Prop:=isw t x m w (-64)=true∨isw t x m w 64=true
instance (w:Int):Decidable (A2m t x m w):=by unfold A2m;infer_instance
end
end Go.Proofs.Ytbhjgebjojdohaa
namespace Go.Proofs.Ytbhjgebjojdohaa
open Go Go.RowKit Go.Eng
set_option maxRecDepth 10000
set_option linter.unusedVariables false
set_option linter.unusedSimpArgs false
theorem A24 (F:Nat) (l:List api_Span) (hb:∀s∈l,spB s) (hl:l.length<4611686018427387904):∃l',Ej F l=some l'∧l'.Perm l∧l'.Pairwise (fun x y=>x.Lo≤y.Lo):=by
 unfold Ej;rw [dif_pos ⟨hb,hl⟩];have hlt:∀x y:{s:api_Span // spB s},Go.Proofs.ltOf Hv x y=decide (x.val.Lo<y.val.Lo):=by
  intro x y;unfold Go.Proofs.ltOf Hv
  congr 1
  simp only [eq_iff_iff];omega
 have hO:Go.Sort.SWO (Go.Proofs.ltOf Hv):=by
  constructor
  ·intro x;rw [hlt];simp
  ·intro x y z h1 h2;rw [hlt] at *;simp at *;omega
  ·intro x y z h1 h2;rw [hlt] at *;simp at *;omega
 obtain ⟨_,h2,h3⟩:=R5 Hv hO (l.pmap Subtype.mk hb);refine ⟨_,rfl,?_,?_⟩
 ·have:=h2.map Subtype.val;refine this.trans ?_;rw [List.map_pmap];simp
 ·rw [List.pairwise_map];refine h3.imp ?_;intro x y h;rw [hlt] at h
  simpa using h
def mg:api_Span→List api_Span→List api_Span
 | c,[]=>[c]
 | c,x::xs=>if x.Lo≤c.Hi then mg ⟨c.Lo,if x.Hi>c.Hi then x.Hi else c.Hi⟩ xs else c::mg x xs
def M9:List api_Span→List api_Span
 | []=>[]
 | x::xs=>mg x xs
def closed (l:List api_Span) (H:Int):Prop:=∀x∈l,x.Lo≤H→x.Hi≤H
theorem Xq (y:List api_Span):∀(n N i:Nat) (pre:List api_Span) (c:api_Span),i+n=y.length→n<N→pre.length+n≤8000000000000→y.length≤8000000000000 →
  Aq y N (i:Int) (pre++[c])=some (pre++mg c (y.drop i)):=by
 intro n
 induction n with
 | zero =>
  intro N i pre c hi hN hp hi2;obtain ⟨N,rfl⟩:∃N',N=N'+1:=⟨N-1,by omega⟩;show Az y (Aq y N) (i:Int) (pre++[c])=_;unfold Az;rw [B9 (by simp;omega),List.drop_eq_nil_of_le (by omega)];rfl
 | succ n ih =>
  intro N i pre c hi hN hp hi2;obtain ⟨N,rfl⟩:∃N',N=N'+1:=⟨N-1,by omega⟩;show Az y (Aq y N) (i:Int) (pre++[c])=_;unfold Az;rw [Dm (i:=i) (by omega) default];rw [C9 (by simp;omega),El default (by omega),Int.toNat_natCast];generalize y.getD i default=x;have hlen:(pre++[c]).length=pre.length+1:=by simp
  have hpos:decide ((((pre++[c]).length:Nat):Int)>0)=true:=by rw [hlen];simp
  have hidx:((((pre++[c]).length:Nat):Int)-1)=(pre.length:Nat):=by rw [hlen];omega
  have hget:(pre++[c]).getD pre.length default=c:=by simp [List.getD_eq_getElem?_getD]
  simp only [hpos];rw [gdT (g:=true==true&&true) rfl,ckb (by rw [hlen];omega),gdT (g:=true==true&&true) rfl,hidx,El default (by rw [hlen];omega),Int.toNat_natCast,hget];unfold C4;have hck:∀(l:List api_Span),(ck ((i:Int)+1)).bind (fun x179=>Aq y N x179 l)=Aq y N (((i+1:Nat):Int)) l:=fun l=>by rw [ckb (by omega),Int.natCast_add];rfl
  by_cases h:x.Lo≤c.Hi
  ·refine Eq.trans (C9 (by simpa using h)) ?_;rw [ckb (by omega),ckb (by omega),El default (by rw [hlen];omega),El default (by rw [hlen];omega),Int.toNat_natCast,hget];unfold Ge;rw [if_pos (by rw [hlen];omega),sb,Int.toNat_natCast,hck];have hset:(pre++[c]).set pre.length ⟨c.Lo,if x.Hi>c.Hi then x.Hi else c.Hi⟩=pre++[⟨c.Lo,if x.Hi>c.Hi then x.Hi else c.Hi⟩]:=by simp
   rw [hset,ih N (i+1) _ _ (by omega) (by omega) (by omega) (by omega)]
   conv=>rhs;unfold mg
   rw [if_pos h]
  ·refine Eq.trans (B9 (by simpa using h)) ?_;rw [Kr (by rw [hlen];simp;omega),hck,ih N (i+1) (pre++[c]) x (by omega) (by omega) (by rw [hlen];omega) (by omega)]
   conv=>rhs;unfold mg
   rw [if_neg h];simp
theorem U1 (F:Nat) (y:List api_Span) (hy:y.length<F) (hl:y.length≤1000000000000):Aq y F 0 []=some (M9 y):=by
 obtain ⟨N,rfl⟩:∃N',F=N'+1:=⟨F-1,by omega⟩;show Az y (Aq y N) 0 []=_;unfold Az
 cases y with
 | nil=>rfl
 | cons x xs =>
  have hpos:decide (((([]:List api_Span).length:Nat):Int)>0)=false:=rfl;rw [C9 (by simp),El default (by simp)];simp only [hpos];rw [gdF (g:=false==true&&true) rfl,sb,gdF (g:=false==true&&true) rfl,sb];refine Eq.trans (B9 rfl) ?_;rw [Kr (by simp)];unfold C4;rw [ckb (by omega)];have:=Xq (x::xs) xs.length N 1 [] x (by simp;omega) (by simp at hy;omega) (by simp at hl ⊢;omega) (by omega);exact this
theorem A2c (F:Nat) (l:List api_Span) (hF:l.length<F) (hl:l.length≤1000000000000) (hb:∀s∈l,spB s):∃l',Bm F l=some (M9 l')∧l'.Perm l∧l'.Pairwise (fun x y=>x.Lo≤y.Lo):=by
 obtain ⟨l',h1,h2,h3⟩:=A24 F l hb (by omega);refine ⟨l',?_,h2,h3⟩;unfold Bm B5;have hlen:=h2.length_eq;rw [Kr (by simp;omega),sb,List.nil_append,h1,sb,U1 F l' (by omega) (by omega)]
section
variable {out left:List api_Span} {k2:List api_Span→List api_Span→Option (List api_Span)}
end
theorem A84:∀(xs:List api_Span) (c:api_Span),(mg c xs).length≤xs.length+1:=by
 intro xs
 induction xs with
 | nil=>intro c;simp [mg]
 | cons x xs ih =>
  intro c;unfold mg
  split
  ·have:=ih ⟨c.Lo,if x.Hi>c.Hi then x.Hi else c.Hi⟩;rw [List.length_cons];omega
  ·have:=ih x;simp;omega
theorem Ys (l:List api_Span):(M9 l).length≤l.length:=by
 cases l with
 | nil=>simp [M9]
 | cons x xs=>exact A84 xs x
end Go.Proofs.Ytbhjgebjojdohaa
namespace Go.Proofs.Ytbhjgebjojdohaa
open Go Go.RowKit Go.Eng
set_option maxRecDepth 10000
set_option linter.unusedVariables false
set_option linter.unusedSimpArgs false
def inS (z:Int) (s:api_Span):Prop:=2*s.Lo≤z∧z≤2*s.Hi
def mem (z:Int) (l:List api_Span):Prop:=∃s∈l,inS z s
def valid (l:List api_Span):Prop:=∀s∈l,s.Lo≤s.Hi
def Canon (l:List api_Span):Prop:=l.Pairwise (fun a b=>a.Hi<b.Lo)∧valid l
theorem K1 (z:Int):¬mem z []:=by rintro ⟨s,hs,_⟩;cases hs
theorem mem_cons {z:Int} {s:api_Span} {l:List api_Span}:mem z (s::l)↔inS z s∨mem z l:=by
 constructor
 ·rintro ⟨t,ht,h⟩;rcases List.mem_cons.1 ht with rfl|ht
  ·exact .inl h
  ·exact .inr ⟨t,ht,h⟩
 ·rintro (h|⟨t,ht,h⟩)
  ·exact ⟨s,by simp,h⟩
  ·exact ⟨t,by simp [ht],h⟩
theorem Canon.tail {s:api_Span} {l:List api_Span} (h:Canon (s::l)):Canon l:=⟨(List.pairwise_cons.1 h.1).2,fun t ht=>h.2 t (by simp [ht])⟩
theorem Canon.beyond {s:api_Span} {l:List api_Span} (h:Canon (s::l)) {z:Int} (hz:mem z l):2*s.Hi+2≤z:=by
 obtain ⟨t,ht,h1,_⟩:=hz;have:=(List.pairwise_cons.1 h.1).1 t ht;omega
theorem P5:∀{a b:List api_Span},Canon a→Canon b→(∀z,mem z a↔mem z b)→a=b:=by
 intro a
 induction a with
 | nil =>
  intro b _ hb h
  cases b with
  | nil=>rfl
  | cons t b =>
   have hv:=hb.2 t (by simp);exact absurd ((h (2*t.Lo)).2 (mem_cons.2 (.inl ⟨by omega,by omega⟩))) (K1 _)
 | cons s a ih =>
  intro b ha hb h;have hs:=ha.2 s (by simp)
  cases b with
  | nil=>exact absurd ((h (2*s.Lo)).1 (mem_cons.2 (.inl ⟨by omega,by omega⟩))) (K1 _)
  | cons t b =>
   have ht:=hb.2 t (by simp);have e1:s.Lo=t.Lo:=by
    have h1:2*t.Lo≤2*s.Lo:=by
     rcases mem_cons.1 ((h (2*s.Lo)).1 (mem_cons.2 (.inl ⟨by omega,by omega⟩))) with h1|h1
     ·exact h1.1
     ·have:=hb.beyond h1;omega
    have h2:2*s.Lo≤2*t.Lo:=by
     rcases mem_cons.1 ((h (2*t.Lo)).2 (mem_cons.2 (.inl ⟨by omega,by omega⟩))) with h1|h1
     ·exact h1.1
     ·have:=ha.beyond h1;omega
    omega
   have e2:s.Hi=t.Hi:=by
    rcases Int.lt_trichotomy s.Hi t.Hi with hlt|hlt|hlt
    ·rcases mem_cons.1 ((h (2*s.Hi+1)).2 (mem_cons.2 (.inl ⟨by omega,by omega⟩))) with h1|h1
     ·have:=h1.2;omega
     ·have:=ha.beyond h1;omega
    ·exact hlt
    ·rcases mem_cons.1 ((h (2*t.Hi+1)).1 (mem_cons.2 (.inl ⟨by omega,by omega⟩))) with h1|h1
     ·have:=h1.2;omega
     ·have:=hb.beyond h1;omega
   have e3:s=t:=by cases s;cases t;simp_all
   subst e3;rw [ih ha.tail hb.tail];intro z;constructor
   ·intro hz;have hb1:=ha.beyond hz;rcases mem_cons.1 ((h z).1 (mem_cons.2 (.inr hz))) with h1|h1
    ·have:=h1.2;omega
    ·exact h1
   ·intro hz;have hb1:=hb.beyond hz;rcases mem_cons.1 ((h z).2 (mem_cons.2 (.inr hz))) with h1|h1
    ·have:=h1.2;omega
    ·exact h1
theorem A85:∀(xs:List api_Span) (c:api_Span),c.Lo≤c.Hi→xs.Pairwise (fun x y=>x.Lo≤y.Lo)→(∀x∈xs,c.Lo≤x.Lo)→valid xs →
  (∀z,mem z (mg c xs)↔inS z c∨mem z xs)∧Canon (mg c xs)∧∀s∈mg c xs,c.Lo≤s.Lo:=by
 intro xs
 induction xs with
 | nil =>
  intro c hc _ _ _;refine ⟨fun z=>mem_cons,⟨by simp [mg],fun s hs=>?_⟩,fun s hs=>?_⟩<;>simp [mg] at hs<;>subst hs
  ·exact hc
  ·exact Int.le_refl _
 | cons x xs ih =>
  intro c hc hs hl hv;have hx:=hv x (by simp);have hcx:=hl x (by simp);rw [List.pairwise_cons] at hs;unfold mg
  by_cases h:x.Lo≤c.Hi
  ·rw [if_pos h];obtain ⟨h1,h2,h3⟩:=ih ⟨c.Lo,if x.Hi>c.Hi then x.Hi else c.Hi⟩ (by simp only;split<;>omega) hs.2 (fun y hy=>hl y (by simp [hy])) (fun y hy=>hv y (by simp [hy]));refine ⟨fun z=>?_,h2,h3⟩;rw [h1 z,mem_cons];have:inS z ⟨c.Lo,if x.Hi>c.Hi then x.Hi else c.Hi⟩↔inS z c∨inS z x:=by
    unfold inS;simp only
    split<;>omega
   rw [this,or_assoc]
  ·rw [if_neg h];obtain ⟨h1,h2,h3⟩:=ih x hx hs.2 hs.1 (fun y hy=>hv y (by simp [hy]));refine ⟨fun z=>?_,⟨List.pairwise_cons.2 ⟨fun y hy=>?_,h2.1⟩,fun s hs=>?_⟩,fun s hs=>?_⟩
   ·rw [mem_cons,h1 z,mem_cons]
   ·have:=h3 y hy;omega
   ·rcases List.mem_cons.1 hs with rfl|hs
    ·exact hc
    ·exact h2.2 s hs
   ·rcases List.mem_cons.1 hs with rfl|hs
    ·exact Int.le_refl _
    ·have:=h3 s hs;omega
theorem No {l:List api_Span} (hs:l.Pairwise (fun x y=>x.Lo≤y.Lo)) (hv:valid l):(∀z,mem z (M9 l)↔mem z l)∧Canon (M9 l):=by
 cases l with
 | nil=>exact ⟨fun z=>Iff.rfl,⟨List.Pairwise.nil,fun s hs=>by cases hs⟩⟩
 | cons x xs =>
  rw [List.pairwise_cons] at hs;obtain ⟨h1,h2,_⟩:=A85 xs x (hv x (by simp)) hs.2 hs.1 (fun y hy=>hv y (by simp [hy]));exact ⟨fun z=>(h1 z).trans mem_cons.symm,h2⟩
def un (l:List api_Span):List api_Span:=M9 (l.mergeSort (fun x y=>decide (x.Lo≤y.Lo)))
theorem R6 (l:List api_Span):(l.mergeSort (fun x y=>decide (x.Lo≤y.Lo))).Pairwise (fun x y=>x.Lo≤y.Lo):=by
 have:=List.pairwise_mergeSort (le:=fun x y:api_Span=>decide (x.Lo≤y.Lo)) (fun a b c h1 h2=>by simp at *;omega) (fun a b=>by simp;omega) l;exact this.imp (fun h=>by simpa using h)
theorem Wz {a b:List api_Span} (h:a.Perm b) (z:Int):mem z a↔mem z b:=by
 constructor
 ·rintro ⟨s,hs,hz⟩;exact ⟨s,h.mem_iff.1 hs,hz⟩
 ·rintro ⟨s,hs,hz⟩;exact ⟨s,h.mem_iff.2 hs,hz⟩
theorem Nr {a b:List api_Span} (h:a.Perm b) (hv:valid b):valid a:=fun s hs=>hv s (h.mem_iff.1 hs)
theorem Qr {l:List api_Span} (hv:valid l) (z:Int):mem z (un l)↔mem z l:=by
 have hp:=List.mergeSort_perm l (fun x y=>decide (x.Lo≤y.Lo));exact ((No (R6 l) (Nr hp hv)).1 z).trans (Wz hp z)
theorem Lb {l:List api_Span} (hv:valid l):Canon (un l):=(No (R6 l) (Nr (List.mergeSort_perm l _) hv)).2
theorem A2a {l σ:List api_Span} (hp:σ.Perm l) (hs:σ.Pairwise (fun x y=>x.Lo≤y.Lo)) (hv:valid l):M9 σ=un l:=by
 obtain ⟨h1,h2⟩:=No hs (Nr hp hv);exact P5 h2 (Lb hv) fun z=>(h1 z).trans ((Wz hp z).trans (Qr hv z).symm)
def Jd (B:Int) (l:List api_Span):Prop:=∀s∈l,-B≤s.Lo∧s.Hi≤B
theorem Jk {B:Int} {l:List api_Span} (hv:valid l) (h:∀z,mem z l→-2*B≤z∧z≤2*B):Jd B l:=by
 intro s hs;have hvs:=hv s hs;have h1:=h (2*s.Lo) ⟨s,hs,by unfold inS;omega⟩;have h2:=h (2*s.Hi) ⟨s,hs,by unfold inS;omega⟩;omega
theorem Kb {B:Int} {l:List api_Span} (h:Jd B l) {z:Int} (hz:mem z l):-2*B≤z∧z≤2*B:=by
 obtain ⟨s,hs,h1,h2⟩:=hz;have:=h s hs;omega
theorem A0o:∀{l:List api_Span} {lo hi:Int},Canon l→(∀s∈l,lo≤s.Lo∧s.Hi≤hi)→lo≤hi+1→(l.length:Int)≤hi-lo+1:=by
 intro l
 induction l with
 | nil=>intro lo hi _ _ h;simp;omega
 | cons s l ih =>
  intro lo hi hc hb h;have hs:=hb s (by simp);have hv:=hc.2 s (by simp);have hp:=(List.pairwise_cons.1 hc.1).1;have:=ih (lo:=s.Hi+1) (hi:=hi) hc.tail (fun t ht=>⟨by have:=hp t ht;omega,(hb t (by simp [ht])).2⟩) (by omega);simp;omega
def wd (l:List api_Span) (d:Int):List api_Span:=un (l.map fun s=>⟨s.Lo-d,s.Hi+d⟩)
theorem Tq {l:List api_Span} {d:Int} (hv:valid l) (hd:0≤d):valid (l.map fun s=>(⟨s.Lo-d,s.Hi+d⟩:api_Span)):=by
 intro s hs;obtain ⟨t,ht,rfl⟩:=List.mem_map.1 hs;have:=hv t ht;simp only;omega
theorem A99 {l:List api_Span} {d:Int} (hv:valid l) (hd:0≤d) (z:Int):mem z (wd l d)↔∃y,mem y l∧y-2*d≤z∧z≤y+2*d:=by
 unfold wd;rw [Qr (Tq hv hd)];constructor
 ·rintro ⟨s,hs,h1,h2⟩;obtain ⟨t,ht,rfl⟩:=List.mem_map.1 hs;have hvt:=hv t ht;simp only at h1 h2
  by_cases ha:z<2*t.Lo
  ·exact ⟨2*t.Lo,⟨t,ht,by unfold inS;omega⟩,by omega,by omega⟩
  ·by_cases hb:2*t.Hi<z
   ·exact ⟨2*t.Hi,⟨t,ht,by unfold inS;omega⟩,by omega,by omega⟩
   ·exact ⟨z,⟨t,ht,by unfold inS;omega⟩,by omega,by omega⟩
 ·rintro ⟨y,⟨t,ht,h1,h2⟩,h3,h4⟩;exact ⟨_,List.mem_map.2 ⟨t,ht,rfl⟩,by unfold inS;simp only;omega⟩
def cm (a b:api_Span):Option api_Span:=if Jq (Gq a b)=true then some (Gq a b) else none
theorem Wb {a b:api_Span} {z:Int}:inS z (Gq a b)↔inS z a∧inS z b:=by
 unfold Gq inS;simp only
 split<;>split<;>omega
theorem A2q {a b:api_Span} {z:Int}:(∃s,cm a b=some s∧inS z s)↔inS z a∧inS z b:=by
 rw [←Wb];unfold cm Jq;simp only [decide_eq_true_eq];constructor
 ·rintro ⟨s,h,h1⟩
  by_cases hc:(Gq a b).Lo≤(Gq a b).Hi
  ·rw [if_pos hc] at h;cases h;exact h1
  ·rw [if_neg hc] at h;cases h
 ·intro h;rw [if_pos (by unfold inS at h;omega)];exact ⟨_,rfl,h⟩
theorem W9 {a b s:api_Span} (h:cm a b=some s):s.Lo≤s.Hi:=by
 unfold cm Jq at h;simp only [decide_eq_true_eq] at h
 by_cases hc:(Gq a b).Lo≤(Gq a b).Hi
 ·rw [if_pos hc] at h;cases h;exact hc
 ·rw [if_neg hc] at h;cases h
def prs (a b:List api_Span):List api_Span:=a.flatMap fun x=>b.filterMap (cm x)
theorem Un (a b:List api_Span):valid (prs a b):=by
 intro s hs;obtain ⟨x,_,hs⟩:=List.mem_flatMap.1 hs;obtain ⟨y,_,hs⟩:=List.mem_filterMap.1 hs;exact W9 hs
theorem A65 (a b:List api_Span) (z:Int):mem z (prs a b)↔mem z a∧mem z b:=by
 constructor
 ·rintro ⟨s,hs,hz⟩;obtain ⟨x,hx,hs⟩:=List.mem_flatMap.1 hs;obtain ⟨y,hy,hs⟩:=List.mem_filterMap.1 hs;obtain ⟨h1,h2⟩:=A2q.1 ⟨s,hs,hz⟩;exact ⟨⟨x,hx,h1⟩,⟨y,hy,h2⟩⟩
 ·rintro ⟨⟨x,hx,h1⟩,⟨y,hy,h2⟩⟩;obtain ⟨s,hs,hz⟩:=A2q.2 ⟨h1,h2⟩;exact ⟨s,List.mem_flatMap.2 ⟨x,hx,List.mem_filterMap.2 ⟨y,hy,hs⟩⟩,hz⟩
def mt (a b:List api_Span):List api_Span:=un (prs a b)
theorem Vg (a b:List api_Span) (z:Int):mem z (mt a b)↔mem z a∧mem z b:=(Qr (Un a b) z).trans (A65 a b z)
theorem Ma (a b:List api_Span):Canon (mt a b):=Lb (Un a b)
def nr (a b:List api_Span) (d:Int):List api_Span:=mt a (wd b d)
theorem Nq {a b:List api_Span} {d:Int} (hv:valid b) (hd:0≤d) (z:Int):mem z (nr a b d)↔mem z a∧∃y,mem y b∧y-2*d≤z∧z≤y+2*d:=by
 unfold nr;rw [Vg,A99 hv hd]
theorem T3 (a b:List api_Span) (d:Int):Canon (nr a b d):=Ma _ _
theorem A1l {B:Int} {a b:List api_Span} {d:Int} (hv:valid b) (hd:0≤d) (h:Jd B a):Jd B (nr a b d) :=
 Jk (T3 _ _ _).2 fun z hz=>Kb h ((Nq hv hd z).1 hz).1
def tp:Nat→List api_Span→List api_Span→List api_Span
 | 0,_,_=>[]
 | n+1,a::ys,b::zs=>(cm a b).toList++(if a.Hi<b.Hi then tp n ys (b::zs) else tp n (a::ys) zs)
 | _+1,_,_=>[]
theorem Tn:∀(n:Nat) (a b:List api_Span),valid (tp n a b):=by
 intro n
 induction n with
 | zero=>intro a b s hs;simp [tp] at hs
 | succ n ih =>
  intro a b s hs
  cases a with
  | nil=>simp [tp] at hs
  | cons x a =>
   cases b with
   | nil=>simp [tp] at hs
   | cons y b =>
    unfold tp at hs;rcases List.mem_append.1 hs with hs|hs
    ·cases hc:cm x y with
     | none=>rw [hc] at hs;simp at hs
     | some t=>rw [hc] at hs;simp at hs;subst hs;exact W9 hc
    ·split at hs
     ·exact ih _ _ s hs
     ·exact ih _ _ s hs
theorem A5u {a b:List api_Span} {z:Int}:mem z (a++b)↔mem z a∨mem z b:=by
 constructor
 ·rintro ⟨s,hs,hz⟩;rcases List.mem_append.1 hs with h|h
  ·exact .inl ⟨s,h,hz⟩
  ·exact .inr ⟨s,h,hz⟩
 ·rintro (⟨s,h,hz⟩|⟨s,h,hz⟩)
  ·exact ⟨s,List.mem_append.2 (.inl h),hz⟩
  ·exact ⟨s,List.mem_append.2 (.inr h),hz⟩
theorem A83 {a b:api_Span} {z:Int}:mem z (cm a b).toList↔inS z a∧inS z b:=by
 rw [←A2q];constructor
 ·rintro ⟨s,hs,hz⟩
  cases hc:cm a b with
  | none=>rw [hc] at hs;simp at hs
  | some t=>rw [hc] at hs;simp at hs;subst hs;exact ⟨_,rfl,hz⟩
 ·rintro ⟨s,hs,hz⟩;exact ⟨s,by rw [hs];simp,hz⟩
theorem A4u:∀(n:Nat) (a b:List api_Span),a.length+b.length≤n→Canon a→Canon b→∀z,mem z (tp n a b)↔mem z a∧mem z b:=by
 intro n
 induction n with
 | zero =>
  intro a b hn _ _ z;have:a=[]:=List.length_eq_zero_iff.1 (by omega);subst this;exact ⟨fun h=>absurd h (K1 z),fun h=>absurd h.1 (K1 z)⟩
 | succ n ih =>
  intro a b hn ha hb z
  cases a with
  | nil=>exact ⟨fun h=>absurd h (K1 z),fun h=>absurd h.1 (K1 z)⟩
  | cons x a =>
   cases b with
   | nil=>exact ⟨fun h=>absurd h (K1 z),fun h=>absurd h.2 (K1 z)⟩
   | cons y b =>
    simp only [List.length_cons] at hn;unfold tp;rw [A5u,A83]
    by_cases hlt:x.Hi<y.Hi
    ·rw [if_pos hlt,ih a (y::b) (by simp only [List.length_cons];omega) ha.tail hb z];constructor
     ·rintro (⟨h1,h2⟩|⟨h1,h2⟩)
      ·exact ⟨mem_cons.2 (.inl h1),mem_cons.2 (.inl h2)⟩
      ·exact ⟨mem_cons.2 (.inr h1),h2⟩
     ·rintro ⟨h1,h2⟩;rcases mem_cons.1 h1 with h1|h1
      ·rcases mem_cons.1 h2 with h2|h2
       ·exact .inl ⟨h1,h2⟩
       ·have:=hb.beyond h2;have:=h1.2;omega
      ·exact .inr ⟨h1,h2⟩
    ·rw [if_neg hlt,ih (x::a) b (by simp only [List.length_cons];omega) ha hb.tail z];constructor
     ·rintro (⟨h1,h2⟩|⟨h1,h2⟩)
      ·exact ⟨mem_cons.2 (.inl h1),mem_cons.2 (.inl h2)⟩
      ·exact ⟨h1,mem_cons.2 (.inr h2)⟩
     ·rintro ⟨h1,h2⟩;rcases mem_cons.1 h2 with h2|h2
      ·rcases mem_cons.1 h1 with h1|h1
       ·exact .inl ⟨h1,h2⟩
       ·have:=ha.beyond h1;have:=h2.2;omega
      ·exact .inr ⟨h1,h2⟩
theorem A94:∀(n:Nat) (a b:List api_Span),(tp n a b).length≤n:=by
 intro n
 induction n with
 | zero=>intro a b;simp [tp]
 | succ n ih =>
  intro a b
  cases a with
  | nil=>simp [tp]
  | cons x a =>
   cases b with
   | nil=>simp [tp]
   | cons y b =>
    unfold tp;have h1:(cm x y).toList.length≤1:=by cases cm x y<;>simp
    rw [List.length_append]
    split
    ·have:=ih a (y::b);omega
    ·have:=ih (x::a) b;omega
theorem B0a {n:Nat} {a b:List api_Span} (hn:a.length+b.length≤n) (ha:Canon a) (hb:Canon b):un (tp n a b)=mt a b :=
 P5 (Lb (Tn n a b)) (Ma a b) fun z=>(Qr (Tn n a b) z).trans ((A4u n a b hn ha hb z).trans (Vg a b z).symm)
end Go.Proofs.Ytbhjgebjojdohaa
namespace Go.Proofs.Ytbhjgebjojdohaa
open Go Go.RowKit Go.Eng
set_option maxRecDepth 10000
set_option linter.unusedVariables false
set_option linter.unusedSimpArgs false
def FF:Nat:=2000000000000
theorem Qe (i:Nat):((i:Int)+1)=((i+1:Nat):Int):=by omega
theorem Qs {F:Nat} (hF:FF≤F) {l:List api_Span} (hv:valid l) (hb:∀s∈l,spB s) (hl:l.length≤1000000000000):Bm F l=some (un l):=by
 unfold FF at hF;obtain ⟨σ,h1,h2,h3⟩:=A2c F l (by omega) hl hb;rw [h1,A2a h2 h3 hv]
section
variable {l:List api_Span} {d:Int}
theorem A2d (F:Nat) (hB:Jd 1000000000 l) (hv:valid l) (hd:0≤d∧d≤1000000000) (hl:l.length≤1000000000000):∀(n N i:Nat) (acc:List api_Span),i+n=l.length→n<N→acc.length+n≤1000000000000 →
  Bu F l d N (i:Int) acc=Dx F (acc++(l.drop i).map fun s=>⟨s.Lo-d,s.Hi+d⟩):=by
 intro n
 induction n with
 | zero =>
  intro N i acc hi hN ha;obtain ⟨N,rfl⟩:∃N',N=N'+1:=⟨N-1,by omega⟩;show Bt F l d (Bu F l d N) (i:Int) acc=_;unfold Bt;rw [B9 (by simp;omega),List.drop_eq_nil_of_le (by omega)];simp
 | succ n ih =>
  intro N i acc hi hN ha;obtain ⟨N,rfl⟩:∃N',N=N'+1:=⟨N-1,by omega⟩;show Bt F l d (Bu F l d N) (i:Int) acc=_;unfold Bt;have hm:l.getD i default∈l:=by rw [List.getD_eq_getElem?_getD,List.getElem?_eq_getElem (by omega:i<l.length)];exact List.getElem_mem _
  have hb:=hB _ hm;rw [Dm (i:=i) (by omega) default];rw [C9 (by simp;omega),El default (by omega),Int.toNat_natCast];have hvx:=hv _ hm;generalize l.getD i default=x at *;rw [ckb (by omega),ckb (by omega),Kr (by simp;omega),ckb (by omega),Qe,ih N (i+1) _ (by omega) (by omega) (by simp;omega)];simp
theorem A9a (hB:Jd 1000000000 l) (hv:valid l) (hd:0≤d∧d≤1000000000):∀s∈l.map (fun s=>(⟨s.Lo-d,s.Hi+d⟩:api_Span)),spB s:=by
 intro s hs;obtain ⟨t,ht,rfl⟩:=List.mem_map.1 hs;have:=hB t ht;have:=hv t ht;unfold spB;simp only;omega
theorem A6n {F:Nat} (hF:FF≤F) (hB:Jd 1000000000 l) (hv:valid l) (hd:0≤d∧d≤1000000000) (hl:l.length≤1000000000000):F3 F l d=some (wd l d):=by
 have hF':=hF;unfold FF at hF';unfold F3;have hh:=A2d F hB hv hd hl l.length F 0 [] (by omega) (by omega) (by simp;omega);refine Eq.trans hh ?_;unfold Dx;rw [List.drop_zero,List.nil_append,Qs hF (Tq hv hd.1) (A9a hB hv hd) (by simpa using hl),sb];rfl
end
theorem cmB {a b:api_Span} {β:Type} (x y:β):(bif (decide ((Gq a b).Lo≤(Gq a b).Hi)) then x else y)=match cm a b with|some _=>x|none=>y:=by
 unfold cm Jq
 by_cases h:(Gq a b).Lo≤(Gq a b).Hi<;>simp [h]
section
variable {a b:List api_Span}
theorem A1i (F:Nat) (ha:a.length≤100000000000) (hb:b.length≤100000000000):∀(n N i k:Nat) (acc:List api_Span),i≤a.length→k≤b.length→a.length-i+(b.length-k)≤n→n<N→acc.length+n≤1000000000000 →
  Bi F a b N acc (i:Int) (k:Int)=Cw F (acc++tp n (a.drop i) (b.drop k)):=by
 intro n
 induction n with
 | zero =>
  intro N i k acc hi hk hn hN hacc;obtain ⟨N,rfl⟩:∃N',N=N'+1:=⟨N-1,by omega⟩;show Bs F a b (Bi F a b N) acc (i:Int) (k:Int)=_;unfold Bs;rw [B9 (by simp [cond_eq_ite];omega)];simp [tp]
 | succ n ih =>
  intro N i k acc hi hk hn hN hacc;obtain ⟨N,rfl⟩:∃N',N=N'+1:=⟨N-1,by omega⟩;show Bs F a b (Bi F a b N) acc (i:Int) (k:Int)=_;unfold Bs
  by_cases h1:i<a.length
  ·by_cases h2:k<b.length
   ·rw [C9 (by simp [cond_eq_ite];omega),El default (by omega),El default (by omega),Int.toNat_natCast,Int.toNat_natCast,M4];have ga:∀{β:Type} (f:api_Span→Option β),(An a (i:Int)).bind f=f (a.getD i default):=fun f=>by rw [El default (by omega),Int.toNat_natCast]
    have gb:∀{β:Type} (f:api_Span→Option β),(An b (k:Int)).bind f=f (b.getD k default):=fun f=>by rw [El default (by omega),Int.toNat_natCast]
    rw [Dm (i:=i) h1 default,Dm (i:=k) h2 default];generalize hx:a.getD i default=x at *;generalize hy:b.getD k default=y at *;have hK:∀(c:List api_Span),c.length+n≤1000000000000→Cy a b (i:Int) (k:Int) (Bi F a b N) c=Cw F (c++if x.Hi<y.Hi then tp n (a.drop (i+1)) (y::b.drop (k+1)) else tp n (x::a.drop (i+1)) (b.drop (k+1))):=by
     intro c hc;unfold Cy;rw [ga,gb]
     by_cases hlt:x.Hi<y.Hi
     ·rw [C9 (by simpa using hlt),ckb (by omega),Qe,ih N (i+1) k c (by omega) hk (by omega) (by omega) hc,if_pos hlt,Dm (i:=k) h2 default,hy]
     ·rw [B9 (by simpa using hlt),ckb (by omega),Qe,ih N i (k+1) c hi (by omega) (by omega) (by omega) hc,if_neg hlt,Dm (i:=i) h1 default,hx]
    refine Eq.trans (cmB _ _) ?_
    conv=>rhs;unfold tp
    cases hc:cm x y with
    | none=>simp only;rw [hK acc (by omega)];simp
    | some s =>
     have hs:s=Gq x y:=by unfold cm at hc;split at hc<;>simp_all
     subst hs;simp only;rw [Kr (by simp;omega),hK _ (by simp;omega)];simp
   ·rw [B9 (by simp [cond_eq_ite];omega),List.drop_eq_nil_of_le (by omega:b.length≤k)]
    cases a.drop i<;>simp [tp]
  ·rw [B9 (by simp [cond_eq_ite];omega),List.drop_eq_nil_of_le (by omega:a.length≤i)];simp [tp]
theorem A00 {F:Nat} (hF:FF≤F) (ha:a.length≤100000000000) (hb:b.length≤100000000000) (hca:Canon a) (hcb:Canon b) (hB:Jd 1000000000 a):E7 F a b=some (mt a b):=by
 have hF':=hF;unfold FF at hF';unfold E7;have hh:=A1i F ha hb (a.length+b.length) F 0 0 [] (by omega) (by omega) (by omega) (by omega) (by simp;omega);refine Eq.trans hh ?_;unfold Cw;have hlen:=A94 (a.length+b.length) a b;have hv:=Tn (a.length+b.length) a b;have hw:Jd 1000000000 (tp (a.length+b.length) a b):=Jk hv fun z hz=>Kb hB ((A4u _ a b (Nat.le_refl _) hca hcb z).1 hz).1;rw [List.drop_zero,List.drop_zero,List.nil_append,Qs hF hv (fun s hs=>by have:=hw s hs;have:=hv s hs;unfold spB;omega) (by omega),sb,B0a (Nat.le_refl _) hca hcb]
end
def Good (l:List api_Span):Prop:=Canon l∧Jd 200000 l
theorem Good.len {l:List api_Span} (h:Good l):l.length≤400001:=by
 have:=A0o (lo:=-200000) (hi:=200000) h.1 h.2 (by omega);omega
theorem A95 (l:List api_Span):(un l).length≤l.length:=by
 have:=Ys (l.mergeSort (fun x y=>decide (x.Lo≤y.Lo)));rw [List.length_mergeSort] at this;exact this
theorem A98 (l:List api_Span) (d:Int):(wd l d).length≤l.length:=by
 have:=A95 (l.map fun s=>(⟨s.Lo-d,s.Hi+d⟩:api_Span))
 simpa [wd] using this
theorem Good.nr {a b:List api_Span} {d:Int} (ha:Good a) (hb:Good b) (hd:0≤d):Good (nr a b d):=⟨T3 a b d,A1l hb.1.2 hd ha.2⟩
theorem Good.mt {a b:List api_Span} (ha:Good a):Good (mt a b):=⟨Ma a b,Jk (Ma a b).2 fun z hz=>Kb ha.2 ((Vg a b z).1 hz).1⟩
theorem Good.big {l:List api_Span} (h:Good l):Jd 1000000000 l:=fun s hs=>by have:=h.2 s hs;omega
theorem A5v {F:Nat} (hF:FF≤F) {a b:List api_Span} {d:Int} (ha:Good a) (hb:Good b) (hd:0≤d∧d≤1000000000):D2 F a b d=some (nr a b d):=by
 have h1:=ha.len;have h2:=hb.len;have h3:=A98 b d;unfold D2;rw [A6n hF hb.big hb.1.2 hd (by omega),sb,A00 hF (by omega) (by omega) ha.1 (show Canon (wd b d) from Lb (Tq hb.1.2 hd.1)) ha.big,sb];rfl
end Go.Proofs.Ytbhjgebjojdohaa
namespace Go.Proofs.Ytbhjgebjojdohaa
open Go Go.RowKit Go.Eng
set_option maxRecDepth 10000
set_option linter.unusedVariables false
set_option linter.unusedSimpArgs false
abbrev Jl:=List (List api_Span)
def gt (S:Jl) (i:Nat):List api_Span:=S.getD i []
def ne (S:Jl) (i:Nat):Bool:=decide ((gt S i).length>0)
def lk (S:Jl) (br:Int) (i j:Nat):Prop:=i<j∧j<S.length∧ne S i=true∧ne S j=true∧(∀x,i<x→x<j→ne S x=false)∧(j:Int)-i≤br
section
variable (S:Jl) (br jp:Int)
end
def AllGood (f:Jl):Prop:=∀x∈f,Good x
theorem Wo:Good []:=⟨⟨.nil,fun s hs=>by cases hs⟩,fun s hs=>by cases hs⟩
theorem AllGood.gt {f:Jl} (h:AllGood f) (i:Nat):Good (gt f i):=by
 unfold Proofs.Ytbhjgebjojdohaa.gt;rw [List.getD_eq_getElem?_getD]
 by_cases hi:i<f.length
 ·rw [List.getElem?_eq_getElem hi];exact h _ (List.getElem_mem hi)
 ·rw [List.getElem?_eq_none (by omega)];exact Wo
theorem AllGood.set {f:Jl} (h:AllGood f) (i:Nat) {x:List api_Span} (hx:Good x):AllGood (f.set i x):=by
 intro y hy;rcases List.mem_or_eq_of_mem_set hy with h1|h1
 ·exact h y h1
 ·rw [h1];exact hx
theorem A7u {f:Jl} {i j:Nat} {x:List api_Span} (hi:i<f.length):gt (f.set i x) j=if i=j then x else gt f j:=by
 unfold gt;rw [List.getD_eq_getElem?_getD,List.getD_eq_getElem?_getD,List.getElem?_set]
 by_cases h:i=j
 ·rw [if_pos h,if_pos h,if_pos hi];rfl
 ·rw [if_neg h,if_neg h]
section
variable {S:Jl} {br jp:Int}
theorem A38 {β:Type} {f:Jl} {i:Nat} (hi:i<f.length) (k:List api_Span→Option β):(An f (i:Int)).bind k=k (gt f i):=by
 rw [El [] (by omega),Int.toNat_natCast];rfl
end
end Go.Proofs.Ytbhjgebjojdohaa
namespace Go.Proofs.Ytbhjgebjojdohaa
open Go Go.RowKit Go.Eng
set_option maxRecDepth 10000
set_option linter.unusedVariables false
set_option linter.unusedSimpArgs false
section
variable {S:Jl} {br jp:Int} {F:Nat}
theorem B0m {β:Type} {f:Jl} {i:Nat} {x:List api_Span} (hi:i<f.length) (k:Jl→Option β):(Ge f (i:Int) x).bind k=k (f.set i x):=by
 unfold Ge;rw [if_pos (by omega),sb,Int.toNat_natCast]
end
end Go.Proofs.Ytbhjgebjojdohaa
namespace Go.Proofs.Ytbhjgebjojdohaa
open Go Go.RowKit Go.Eng
set_option maxRecDepth 10000
set_option linter.unusedVariables false
set_option linter.unusedSimpArgs false
section
variable {S:Jl} {br jp:Int} {F:Nat}
def Kn (S:Jl):List Nat:=(List.range S.length).filter (ne S)
def toI (l:List Nat):List Int:=List.map (fun (x:Nat)=>(x:Int)) l
theorem Ux:(Kn S).length≤S.length:=by
 unfold Kn;have:=List.length_filter_le (ne S) (List.range S.length)
 simpa using this
theorem Lx {x:Nat}:x∈Kn S↔x<S.length∧ne S x=true:=by unfold Kn;rw [List.mem_filter,List.mem_range]
theorem A0j:(Kn S).Pairwise (· < ·):=List.pairwise_lt_range.filter _
def kn (S:Jl) (t:Nat):Nat:=(Kn S).getD t 0
theorem M6 {t:Nat} (h:t<(Kn S).length):kn S t∈Kn S∧(Kn S)[t]? = some (kn S t):=by
 unfold kn;rw [List.getD_eq_getElem?_getD,List.getElem?_eq_getElem h];exact ⟨List.getElem_mem h,rfl⟩
theorem A3i {t u:Nat} (h:t<u) (hu:u<(Kn S).length):kn S t<kn S u:=by
 have:=List.pairwise_iff_getElem.1 (A0j (S:=S)) t u (by omega) hu h;unfold kn;rw [List.getD_eq_getElem?_getD,List.getD_eq_getElem?_getD,List.getElem?_eq_getElem (by omega:t<(Kn S).length),List.getElem?_eq_getElem hu];exact this
theorem Ue {x:Nat} (h:x<S.length) (hn:ne S x=true):∃t,t<(Kn S).length∧kn S t=x:=by
 obtain ⟨t,ht,e⟩:=List.mem_iff_getElem.1 (Lx.2 ⟨h,hn⟩);refine ⟨t,ht,?_⟩;unfold kn;rw [List.getD_eq_getElem?_getD,List.getElem?_eq_getElem ht,e];rfl
theorem Zv {t u:Nat} (h:t≤u) (hu:u<(Kn S).length):kn S t≤kn S u:=by
 by_cases e:t=u
 ·rw [e];exact Nat.le_refl _
 ·exact Nat.le_of_lt (A3i (by omega) hu)
theorem A59 {t x:Nat} (ht:t+1<(Kn S).length) (h1:kn S t<x) (h2:x<kn S (t+1)):ne S x=false:=by
 cases hx:ne S x with
 | false=>rfl
 | true =>
  have hb:=(Lx.1 (M6 ht).1).1;obtain ⟨u,hu,rfl⟩:=Ue (by omega) hx
  by_cases hut:u≤t
  ·have:=Zv hut (by omega:t<(Kn S).length);omega
  ·have:=Zv (by omega:t+1≤u) hu;omega
theorem A2n {x:Nat} (h0:0<(Kn S).length) (h:x<kn S 0):ne S x=false:=by
 cases hx:ne S x with
 | false=>rfl
 | true =>
  have hb:=(Lx.1 (M6 h0).1).1;obtain ⟨u,hu,rfl⟩:=Ue (by omega) hx;have:=Zv (Nat.zero_le u) hu;omega
theorem B0c {x:Nat} (h0:0<(Kn S).length) (hxl:x<S.length) (h:kn S ((Kn S).length-1)<x):ne S x=false:=by
 cases hx:ne S x with
 | false=>rfl
 | true =>
  obtain ⟨u,hu,rfl⟩:=Ue hxl hx;have:=Zv (S:=S) (by omega:u≤(Kn S).length-1) (by omega);omega
theorem Yk (hl:S.length≤100000):∀(n N i:Nat) (acc:List Int),i+n=S.length→n<N→acc.length≤i →
  Er S N acc (i:Int)=some (acc++toI ((List.range' i n).filter (ne S))):=by
 intro n
 induction n with
 | zero =>
  intro N i acc hi hN ha;obtain ⟨N,rfl⟩:∃N',N=N'+1:=⟨N-1,by omega⟩;show Ep S (Er S N) acc (i:Int)=_;unfold Ep;rw [B9 (by simp;omega)];simp [Jf,toI]
 | succ n ih =>
  intro N i acc hi hN ha;obtain ⟨N,rfl⟩:∃N',N=N'+1:=⟨N-1,by omega⟩;show Ep S (Er S N) acc (i:Int)=_;unfold Ep Gr;rw [C9 (by simp;omega),A38 (by omega),List.range'_succ]
  by_cases h:ne S i=true
  ·have h':=h;unfold ne at h';rw [C9 (by simpa using h'),Kr (by simp;omega),ckb (by omega),Qe,ih N (i+1) _ (by omega) (by omega) (by simp;omega),List.filter_cons_of_pos h];simp [toI]
  ·have h':ne S i=false:=by simpa using h
   have h2:=h';unfold ne at h2;rw [B9 (by simpa using h2),ckb (by omega),Qe,ih N (i+1) _ (by omega) (by omega) (by omega),List.filter_cons_of_neg h]
theorem Wr (hF:FF≤F) (hl:S.length≤100000):J1 F S=some (toI (Kn S)):=by
 unfold FF at hF;unfold J1;have:=Yk (S:=S) hl S.length F 0 [] (by omega) (by omega) (by simp);refine Eq.trans this ?_;unfold Kn;rw [List.range_eq_range',List.nil_append]
theorem A39 {β:Type} {t:Nat} (h:t<(Kn S).length) (k:Int→Option β):(An (toI (Kn S)) (t:Int)).bind k=k ((kn S t:Nat):Int):=by
 rw [El 0 (by simp [toI];omega),Int.toNat_natCast];have:(toI (Kn S)).getD t 0=((kn S t:Nat):Int):=by
  unfold toI;rw [List.getD_eq_getElem?_getD,List.getElem?_map,(M6 h).2];rfl
 rw [this]
end
end Go.Proofs.Ytbhjgebjojdohaa
namespace Go.Proofs.Ytbhjgebjojdohaa
open Go Go.RowKit Go.Eng
set_option maxRecDepth 10000
set_option linter.unusedVariables false
set_option linter.unusedSimpArgs false
def gx (l:List api_Span) (x:Nat):api_Span:=l.getD x default
theorem Yc {β:Type} {l:List api_Span} {i:Nat} (hi:i<l.length) (k:api_Span→Option β):(An l (i:Int)).bind k=k (gx l i):=by
 rw [El default (by omega),Int.toNat_natCast];rfl
section
variable {S:Jl} {F:Nat}
end
end Go.Proofs.Ytbhjgebjojdohaa
namespace Go.Proofs.Ytbhjgebjojdohaa
open Go Go.RowKit Go.Eng
set_option maxRecDepth 10000
set_option linter.unusedVariables false
set_option linter.unusedSimpArgs false
abbrev Pl:=Nat×Nat
abbrev Fam:=Pl→List api_Span
abbrev Lnk:=Pl→Pl→Int→Prop
def Xt (f:Fam) (p q:Pl) (d:Int):Prop:=∀z,mem z (f q)→∃y,mem y (f p)∧y-2*d≤z∧z≤y+2*d
def both (R:Lnk):Lnk:=fun p q d=>R p q d∨R q p d
def Stable (R:Lnk) (f:Fam):Prop:=∀p q d,both R p q d→Xt f p q d
def Below (f g:Fam):Prop:=∀p z,mem z (f p)→mem z (g p)
def Zc (f:Fam):Prop:=∀p,Good (f p)
def Xr (f:Fam) (p:Pl) (x:List api_Span):Fam:=fun q=>if q=p then x else f q
theorem Below.refl (f:Fam):Below f f:=fun _ _ h=>h
theorem Below.trans {f g h:Fam} (a:Below f g) (b:Below g h):Below f h:=fun p z hz=>b p z (a p z hz)
section
variable {R:Lnk} {f g h:Fam} {p q:Pl} {d:Int}
theorem Wv (hf:Zc f) (hd:0≤d):Below (Xr f q (nr (f q) (f p) d)) f:=by
 intro r z hz;unfold Xr at hz
 split at hz
 ·rename_i e;subst e;exact ((Nq (hf p).1.2 hd z).1 hz).1
 ·exact hz
theorem A3s (hf:Zc f) (hd:0≤d) (hs:Stable R h) (hb:Below h f) (hl:both R p q d):Below h (Xr f q (nr (f q) (f p) d)):=by
 intro r z hz;unfold Xr
 split
 ·rename_i e
  subst e;refine (Nq (hf p).1.2 hd z).2 ⟨hb _ z hz,?_⟩;obtain ⟨y,hy,h1⟩:=hs p r d hl z hz;exact ⟨y,hb _ y hy,h1⟩
 ·exact hb r z hz
theorem A5x (hf:Zc f) (hd:0≤d):nr (f q) (f p) d=f q↔Xt f p q d:=by
 constructor
 ·intro e z hz;rw [←e] at hz;exact ((Nq (hf p).1.2 hd z).1 hz).2
 ·intro hs;refine P5 (T3 _ _ _) (hf q).1 fun z=>?_;rw [Nq (hf p).1.2 hd z];exact ⟨fun h=>h.1,fun h=>⟨h,hs z h⟩⟩
end
instance (z:Int) (s:api_Span):Decidable (inS z s):=by unfold inS;infer_instance
instance (z:Int) (l:List api_Span):Decidable (mem z l):=by unfold mem;infer_instance
def HN:Nat:=800001
theorem A6p:HN=800001:=rfl
attribute [irreducible] HN
def vol (l:List api_Span):Nat:=(List.range HN).countP (fun k:Nat=>decide (mem ((k:Int)-400000) l))
theorem U8 {α:Type} {p q:α→Bool}:∀(l:List α),(∀x∈l,p x=true→q x=true)→l.countP p≤l.countP q
 | [],_=>Nat.le_refl _
 | a::l,h=>by
  have ih:=U8 l fun x hx=>h x (by simp [hx]);have ha:=h a (by simp);rw [List.countP_cons,List.countP_cons]
  split
  ·rw [if_pos (ha (by assumption))];omega
  ·split<;>omega
theorem U9 {α:Type} {p q:α→Bool}:∀(l:List α),(∀x∈l,p x=true→q x=true)→(∃x∈l,q x=true∧p x=false)→l.countP p<l.countP q
 | [],_,h=>by obtain ⟨x,hx,_⟩:=h;cases hx
 | a::l,h,he=>by
  have hl:=U8 l fun x hx=>h x (by simp [hx]);have ha:=h a (by simp);rw [List.countP_cons,List.countP_cons];obtain ⟨x,hx,h1,h2⟩:=he;rcases List.mem_cons.1 hx with rfl|hx
  ·rw [h1,h2];simp;omega
  ·have:=U9 l (fun x hx=>h x (by simp [hx])) ⟨x,hx,h1,h2⟩
   cases hp:p a with
   | true=>rw [ha hp];simp;omega
   | false=>simp;omega
theorem A97 {a b:List api_Span} (hs:∀z,mem z a→mem z b) (ha:Canon a) (hb:Good b) (hne:a≠b):vol a<vol b:=by
 refine U9 _ (fun k _ hk=>?_) ?_
 ·simp only [decide_eq_true_eq] at hk ⊢;exact hs _ hk
 ·have:∃z,mem z b∧¬mem z a:=by
   apply Classical.byContradiction;intro hn;refine hne (P5 ha hb.1 fun z=>⟨hs z,fun hz=>?_⟩);apply Classical.byContradiction;intro h;exact hn ⟨z,hz,h⟩
  obtain ⟨z,h1,h2⟩:=this;have hz:=Kb hb.2 h1;have:=A6p;refine ⟨(z+400000).toNat,List.mem_range.2 (by omega),?_,?_⟩
  ·have e:(((z+400000).toNat:Nat):Int)-400000=z:=by omega
   rw [e];simpa using h1
  ·have e:(((z+400000).toNat:Nat):Int)-400000=z:=by omega
   rw [e];simpa using h2
theorem A96 (l:List api_Span):vol l≤HN:=by
 have:vol l≤(List.range HN).length:=List.countP_le_length ..
 rwa [List.length_range] at this
abbrev Rays:=List Jl
def gf (G:Rays):Fam:=fun p=>gt (G.getD p.1 []) p.2
def sf (G:Rays) (p:Pl) (x:List api_Span):Rays:=G.set p.1 ((G.getD p.1 []).set p.2 x)
def Shape (G:Rays) (n m:Nat):Prop:=G.length=n∧∀r∈G,r.length=m
def AllG (G:Rays):Prop:=∀r∈G,AllGood r
section
variable {G:Rays} {n m a:Nat} {p q:Pl} {x:List api_Span}
theorem Wm {α:Type} {l:List α} {i:Nat} {d:α} (h:i<l.length):l.getD i d∈l:=by
 rw [List.getD_eq_getElem?_getD,List.getElem?_eq_getElem h];exact List.getElem_mem h
theorem Shape.row (h:Shape G n m) (ha:a<n):(G.getD a []).length=m:=h.2 _ (Wm (by rw [h.1];exact ha))
theorem AllG.row (h:AllG G) (a:Nat):AllGood (G.getD a []):=by
 by_cases ha:a<G.length
 ·exact h _ (Wm ha)
 ·rw [List.getD_eq_getElem?_getD,List.getElem?_eq_none (by omega)];intro x hx;cases hx
theorem AllG.good (h:AllG G):Zc (gf G):=fun p=>(h.row p.1).gt p.2
theorem AllG.sf (h:AllG G) (hx:Good x):AllG (sf G p x):=by
 intro r hr;rcases List.mem_or_eq_of_mem_set hr with h1|h1
 ·exact h r h1
 ·rw [h1];exact (h.row p.1).set p.2 hx
theorem Shape.sf (h:Shape G n m) (hp:p.1<n):Shape (sf G p x) n m:=by
 refine ⟨by unfold Proofs.Ytbhjgebjojdohaa.sf;rw [List.length_set];exact h.1,fun r hr=>?_⟩;rcases List.mem_or_eq_of_mem_set hr with h1|h1
 ·exact h.2 r h1
 ·rw [h1,List.length_set];exact h.row hp
theorem A37 {α:Type} {l:List α} {i j:Nat} {x d:α} (hi:i<l.length):(l.set i x).getD j d=if i=j then x else l.getD j d:=by
 rw [List.getD_eq_getElem?_getD,List.getD_eq_getElem?_getD,List.getElem?_set]
 by_cases h:i=j
 ·rw [if_pos h,if_pos h,if_pos hi];rfl
 ·rw [if_neg h,if_neg h]
theorem A3a (h:Shape G n m) (hp:p.1<n∧p.2<m):gf (sf G p x)=Xr (gf G) p x:=by
 funext q
 unfold gf sf Xr;rw [A37 (by rw [h.1];exact hp.1)]
 by_cases h1:p.1=q.1
 ·rw [if_pos h1,A7u (by rw [h.row hp.1];exact hp.2)]
  by_cases h2:p.2=q.2
  ·rw [if_pos h2,if_pos (Prod.ext h1.symm h2.symm)]
  ·rw [if_neg h2,if_neg (fun e=>h2 (by rw [e])),h1]
 ·rw [if_neg h1,if_neg (fun e=>h1 (by rw [e]))]
def Vol (G:Rays):Nat:=(G.map fun r=>(r.map vol).sum).sum
theorem Vs {α:Type} (f:α→Nat) (d:α):∀(l:List α) (i:Nat) (x:α),i<l.length→((l.set i x).map f).sum+f (l.getD i d)=(l.map f).sum+f x
 | [],i,x,h=>by simp at h
 | a::l,0,x,h=>by simp;omega
 | a::l,i+1,x,h=>by
  have:=Vs f d l i x (by simpa using h);simp only [List.set_cons_succ,List.map_cons,List.sum_cons,List.getD_cons_succ];omega
theorem A7a (h:Shape G n m) (hp:p.1<n∧p.2<m):Vol (sf G p x)+vol (gf G p)=Vol G+vol x:=by
 have h1:=Vs (fun r:Jl=>(r.map vol).sum) [] G p.1 ((G.getD p.1 []).set p.2 x) (by rw [h.1];exact hp.1);have h2:=Vs vol [] (G.getD p.1 []) p.2 x (by rw [h.row hp.1];exact hp.2);have e1:(((G.getD p.1 []).getD p.2 []):List api_Span)=gf G p:=rfl;rw [e1] at h2;unfold Vol sf;omega
theorem A79 (h:Shape G n m):Vol G≤n*(m*HN):=by
 obtain ⟨h1,h2⟩:=h;subst h1;unfold Vol
 induction G with
 | nil=>simp
 | cons r G ih =>
  have hr:∀(l:Jl),(l.map vol).sum≤l.length*HN:=by
   intro l
   induction l with
   | nil=>simp
   | cons a l ih=>have:=A96 a;simp only [List.map_cons,List.sum_cons,List.length_cons,Nat.add_mul,Nat.one_mul];omega
  have e:=hr r;rw [h2 r (by simp)] at e;have ih:=ih fun r hr=>h2 r (by simp [hr]);simp only [List.map_cons,List.sum_cons,List.length_cons,Nat.add_mul,Nat.one_mul];omega
end
end Go.Proofs.Ytbhjgebjojdohaa
namespace Go.Proofs.Ytbhjgebjojdohaa
open Go Go.RowKit Go.Eng
set_option maxRecDepth 10000
set_option linter.unusedVariables false
set_option linter.unusedSimpArgs false
section
variable (S:Rays) (br jp:Int)
def LA:Lnk:=fun p q d=>p.1=q.1∧p.1<S.length∧lk (S.getD p.1 []) br p.2 q.2∧d=jp*((q.2:Int)-p.2)
def fst (a i k:Nat):Prop:=1≤k∧(k:Int)≤br∧k<S.length∧ne (S.getD ((a+k)%S.length) []) i=true∧∀k',1≤k'→k'<k→ne (S.getD ((a+k')%S.length) []) i=false
def LO:Lnk:=fun p q d=>p.1<S.length∧ne (S.getD p.1 []) p.2=true∧p.2=q.2∧∃k,fst S br p.1 p.2 k∧q.1=(p.1+k)%S.length∧d=jp*(k:Int)
def LL:Lnk:=fun p q d=>LA S br jp p q d∨LO S br jp p q d
end
theorem A01 {S:Jl} {i:Nat} (h:ne S i=true):i<S.length:=by
 apply Classical.byContradiction;intro hn;unfold ne gt at h;rw [List.getD_eq_getElem?_getD,List.getElem?_eq_none (by omega)] at h;simp at h
section
variable {S:Rays} {br jp:Int} {n m:Nat} {F:Nat}
theorem Rw (hS:Shape S n m) {p q:Pl} {d:Int} (h:LL S br jp p q d):p.1<n∧p.2<m∧q.1<n∧q.2<m∧p≠q:=by
 rcases h with ⟨h1,h2,h3,h4⟩|⟨h1,h2,h3,k,h4,h5,h6⟩
 ·rw [hS.1] at h2;have:=hS.row h2;have h5:=A01 h3.2.2.1;have h6:=h3.2.1;rw [this] at h5 h6;exact ⟨h2,h5,h1▸h2,h6,fun e=>by have:=h3.1;rw [e] at this;omega⟩
 ·have hn0:0<S.length:=by omega
  have h7:=A01 h2;rw [hS.1] at *;rw [hS.row h1] at h7;refine ⟨h1,h7,h5▸Nat.mod_lt _ hn0,h3▸h7,fun e=>?_⟩;have hk:=h4.1;have hk2:=h4.2.2.1;rw [hS.1] at hk2;have e1:p.1=(p.1+k)%n:=by rw [←h5,←e]
  by_cases hlt:p.1+k<n
  ·rw [Nat.mod_eq_of_lt hlt] at e1;omega
  ·rw [Nat.mod_eq_sub_mod (by omega),Nat.mod_eq_of_lt (by omega)] at e1;omega
theorem A9c (hS:Shape S n m) (hj:0≤jp∧jp≤400000) (hb:br≤16) {p q:Pl} {d:Int} (h:LL S br jp p q d):0≤d∧d≤1000000000:=by
 have key:∀c:Int,0≤c→c≤16→0≤jp*c∧jp*c≤1000000000:=by
  intro c h0 h1;have e1:=Int.mul_nonneg hj.1 h0;have e2:jp*c≤400000*16:=Int.mul_le_mul hj.2 h1 h0 (by omega);omega
 rcases h with ⟨h1,h2,h3,h4⟩|⟨h1,h2,h3,k,h4,h5,h6⟩
 ·rw [h4];have:=h3.1;have:=h3.2.2.2.2.2;exact key _ (by omega) (by omega)
 ·rw [h6];have:=h4.1;have:=h4.2.1;exact key _ (by omega) (by omega)
theorem A15 {β:Type} {G:Rays} {a:Nat} (ha:a<G.length) (k:Jl→Option β):(An G (a:Int)).bind k=k (G.getD a []):=by
 rw [El [] (by omega),Int.toNat_natCast]
theorem B0l {β:Type} {a b:Nat} (hb:0<b) (k:Int→Option β):(Hu (a:Int) (b:Int)).bind k=k ((a%b:Nat):Int):=by
 unfold Hu;rw [if_neg (by omega)];show k _=_
 congr 1
theorem A88 (G:Jl) (i:Nat):decide ((((gt G i).length:Nat):Int)>0)=ne G i:=by
 unfold ne;rw [Bool.eq_iff_iff];simp only [decide_eq_true_eq];omega
end
end Go.Proofs.Ytbhjgebjojdohaa
namespace Go.Proofs.Ytbhjgebjojdohaa
open Go Go.RowKit Go.Eng
set_option maxRecDepth 10000
set_option linter.unusedVariables false
set_option linter.unusedSimpArgs false
theorem G5 (a b:List api_Span) (hl:a.length=b.length) (hb:a.length≤1000000000):∀(n N i:Nat),i+n=a.length→n<N →
  Ak a b N (i:Int)=some (decide (a.drop i=b.drop i)):=by
 intro n
 induction n with
 | zero =>
  intro N i hi hN;obtain ⟨N,rfl⟩:∃N',N=N'+1:=⟨N-1,by omega⟩;show Aj a b (Ak a b N) (i:Int)=_;unfold Aj;rw [B9 (by simp;omega),List.drop_eq_nil_of_le (by omega),List.drop_eq_nil_of_le (by omega)];rfl
 | succ n ih =>
  intro N i hi hN;obtain ⟨N,rfl⟩:∃N',N=N'+1:=⟨N-1,by omega⟩;show Aj a b (Ak a b N) (i:Int)=_;unfold Aj;rw [C9 (by simp;omega),Yc (by omega),Yc (by omega),Dm (i:=i) (l:=a) (by omega) default,Dm (i:=i) (l:=b) (by omega) default];show (bif (!(((gx a i).Lo==(gx b i).Lo)&&(((gx a i).Hi==(gx b i).Hi)&&true))) then _ else _)=some (decide (gx a i::a.drop (i+1)=gx b i::b.drop (i+1)))
  by_cases he:gx a i=gx b i
  ·rw [he,B9 (by simp),ckb (by omega),Qe,ih N (i+1) (by omega) (by omega)]
   congr 1
   simp
  ·rw [C9]
   ·congr 1
    simp [he]
   ·apply Classical.byContradiction;intro hn;apply he;simp only [Bool.not_eq_true,Bool.not_eq_false',Bool.and_eq_true,beq_iff_eq,and_true] at hn;obtain ⟨h1,h2⟩:=hn
    cases hx:gx a i;cases hy:gx b i
    rw [hx,hy] at h1 h2;simp only at h1 h2;rw [h1,h2]
theorem Gm {F:Nat} (hF:FF≤F) (a b:List api_Span) (ha:a.length≤1000000000):Au F a b=some (decide (a=b)):=by
 unfold FF at hF;unfold Au
 by_cases hl:a.length=b.length
 ·rw [B9 (by simp;omega)];exact G5 a b hl ha a.length F 0 (by omega) (by omega)
 ·rw [C9 (by simp;omega)]
  congr 1
  have:a≠b:=fun e=>hl (by rw [e]);simp [this]
section
variable {S:Rays} {br jp:Int} {n m:Nat} {F:Nat}
theorem B0n {β:Type} {G:Rays} {a:Nat} {x:Jl} (ha:a<G.length) (k:Rays→Option β):(Ge G (a:Int) x).bind k=k (G.set a x):=by
 unfold Ge;rw [if_pos (by omega),sb,Int.toNat_natCast]
structure Inv (S:Rays) (R:Lnk) (n m:Nat) (G:Rays):Prop where
 shape:Shape G n m
 good:AllG G
 below:Below (gf G) (gf S)
 most:∀h,Stable R h→Below h (gf S)→Below h (gf G)
theorem Inv.step {R:Lnk} {G:Rays} (h:Inv S R n m G) {p q:Pl} {d:Int} (hd:0≤d) (hq:q.1<n∧q.2<m) (hl:both R p q d):Inv S R n m (sf G q (nr (gf G q) (gf G p) d))∧(nr (gf G q) (gf G p) d≠gf G q→Vol (sf G q (nr (gf G q) (gf G p) d))<Vol G):=by
 have hg:=h.good.good;have hgood:Good (nr (gf G q) (gf G p) d):=(hg q).nr (hg p) hd;refine ⟨⟨h.shape.sf hq.1,h.good.sf hgood,?_,fun k hk hb=>?_⟩,fun hne=>?_⟩
 ·rw [A3a h.shape hq];exact (Wv hg hd).trans h.below
 ·rw [A3a h.shape hq];exact A3s hg hd hk (h.most k hk hb) hl
 ·have h1:=A7a (x:=nr (gf G q) (gf G p) d) h.shape hq;have h2:=A97 (a:=nr (gf G q) (gf G p) d) (b:=gf G q) (fun z hz=>((Nq (hg p).1.2 hd z).1 hz).1) hgood.1 (hg q) hne;omega
def FS:Nat:=4000000000000
end
end Go.Proofs.Ytbhjgebjojdohaa
namespace Go.Proofs.Ytbhjgebjojdohaa
open Go Go.RowKit Go.Eng
set_option maxRecDepth 10000
set_option linter.unusedVariables false
set_option linter.unusedSimpArgs false
section
variable {κ ν:Type} [DecidableEq κ]
theorem Zz (B:List (κ×ν)) (x y:κ) (v:ν):lkM (upM B x v) y=if y=x then some v else lkM B y:=by
 induction B with
 | nil=>unfold upM lkM;split<;>rfl
 | cons p B ih =>
  unfold upM
  by_cases hx:x=p.1
  ·rw [if_pos hx];unfold lkM
   by_cases hy:y=x
   ·simp [hy]
   ·simp only [if_neg hy];rw [if_neg (by rw [←hx];exact hy)]
  ·rw [if_neg hx];unfold lkM
   by_cases hy:y=p.1
   ·rw [if_pos hy,if_pos hy,if_neg (fun e=>hx (by rw [←e,hy]))]
   ·rw [if_neg hy,if_neg hy,ih]
def keysNd (B:List (κ×ν)):Prop:=(B.map (·.1)).Nodup
theorem A6i (B:List (κ×ν)) (x:κ) (v:ν):∀k,k∈(upM B x v).map (·.1)↔k∈B.map (·.1)∨k=x:=by
 intro k
 induction B with
 | nil=>simp [upM]
 | cons p B ih =>
  unfold upM
  by_cases hx:x=p.1
  ·rw [if_pos hx];simp only [List.map_cons,List.mem_cons,hx];constructor
   ·rintro (h|h)
    ·exact .inr h
    ·exact .inl (.inr h)
   ·rintro ((h|h)|h)
    ·exact .inl h
    ·exact .inr h
    ·exact .inl h
  ·rw [if_neg hx];simp only [List.map_cons,List.mem_cons,ih];constructor
   ·rintro (h|h|h)
    ·exact .inl (.inl h)
    ·exact .inl (.inr h)
    ·exact .inr h
   ·rintro ((h|h)|h)
    ·exact .inl h
    ·exact .inr (.inl h)
    ·exact .inr (.inr h)
theorem B0b {B:List (κ×ν)} (h:keysNd B) (x:κ) (v:ν):keysNd (upM B x v):=by
 induction B with
 | nil=>simp [keysNd,upM]
 | cons p B ih =>
  unfold keysNd at h ⊢;rw [List.map_cons,List.nodup_cons] at h;unfold upM
  by_cases hx:x=p.1
  ·rw [if_pos hx,List.map_cons,List.nodup_cons];exact ⟨by rw [hx];exact h.1,h.2⟩
  ·rw [if_neg hx,List.map_cons,List.nodup_cons,A6i];exact ⟨fun hh=>hh.elim h.1 (fun e=>hx e.symm),ih h.2⟩
theorem A5s {B:List (κ×ν)} {y:κ} (h:y∉B.map (·.1)):lkM B y=none:=by
 induction B with
 | nil=>rfl
 | cons p B ih =>
  simp only [List.map_cons,List.mem_cons,not_or] at h;unfold lkM;rw [if_neg h.1,ih h.2]
theorem A5d (B:List (κ×ν)) (x k:κ) (h:k∈(Kv B x).map (·.1)):k∈B.map (·.1):=by
 induction B with
 | nil=>exact h
 | cons p B ih =>
  unfold Kv at h
  by_cases hx:x=p.1
  ·rw [if_pos hx] at h;simp [h]
  ·rw [if_neg hx,List.map_cons,List.mem_cons] at h;rw [List.map_cons,List.mem_cons];exact h.imp id ih
theorem A7i {B:List (κ×ν)} (h:keysNd B) (x:κ):keysNd (Kv B x):=by
 induction B with
 | nil=>exact h
 | cons p B ih =>
  unfold keysNd at h ⊢;rw [List.map_cons,List.nodup_cons] at h;unfold Kv
  by_cases hx:x=p.1
  ·rw [if_pos hx];exact h.2
  ·rw [if_neg hx,List.map_cons,List.nodup_cons];exact ⟨fun hh=>h.1 (A5d B x _ hh),ih h.2⟩
theorem A82 {B:List (κ×ν)} (h:keysNd B) (x y:κ):lkM (Kv B x) y=if y=x then none else lkM B y:=by
 induction B with
 | nil=>unfold Kv lkM;split<;>rfl
 | cons p B ih =>
  have h':=h;unfold keysNd at h;rw [List.map_cons,List.nodup_cons] at h;unfold Kv
  by_cases hx:x=p.1
  ·rw [if_pos hx]
   by_cases hy:y=x
   ·rw [if_pos hy];exact A5s (by rw [hy,hx];exact h.1)
   ·rw [if_neg hy]
    conv=>rhs;unfold lkM
    rw [if_neg (by rw [←hx];exact hy)]
  ·rw [if_neg hx]
   conv=>lhs;unfold lkM
   by_cases hy:y=p.1
   ·rw [if_pos hy,if_neg (fun e=>hx (by rw [←e,hy]))];unfold lkM;rw [if_pos hy]
   ·rw [if_neg hy,ih h.2]
    conv=>rhs;unfold lkM
    rw [if_neg hy]
end
abbrev Bonds:=List (fold_place×List fold_bond)
def pl (p:Pl):fold_place:=⟨(p.1:Int),(p.2:Int)⟩
theorem Mg {p q:Pl} (h:pl p=pl q):p=q:=by
 unfold pl at h;simp only [fold_place.mk.injEq] at h;exact Prod.ext (by omega) (by omega)
def Bd (B:Bonds) (r:fold_place):List fold_bond:=(lkM B r).getD []
theorem A5q (F:Nat) (W:Rays) (B:Bonds) {p q:fold_place} (hpq:p≠q) (d:Int) (h1:(Bd B p).length≤100000000) (h2:(Bd B q).length≤100000000) :
  ∃B',Cv F ⟨W,B⟩ p q d=some ⟨W,B'⟩∧∀r,Bd B' r=if r=p then Bd B p++[⟨q,d⟩] else if r=q then Bd B q++[⟨p,d⟩] else Bd B r:=by
 unfold Cv;unfold Bd at h1 h2;have e:lkM (upM B p ((lkM B p).getD []++[(⟨q,d⟩:fold_bond)])) q=lkM B q:=by rw [Zz,if_neg (fun e=>hpq e.symm)]
 show ∃B',((apd 24 ((lkM B p).getD []) [(⟨q,d⟩:fold_bond)]).bind fun l23=>(apd 24 ((lkM (upM B p l23) q).getD []) [(⟨p,d⟩:fold_bond)]).bind fun l67=>some (⟨W,upM (upM B p l23) q l67⟩:fold_web))=some ⟨W,B'⟩∧_;rw [Kr (by simp;omega),e,Kr (by simp;omega)];refine ⟨_,rfl,fun r=>?_⟩;unfold Bd;rw [Zz,Zz]
 by_cases hrq:r=q
 ·rw [if_pos hrq,if_neg (fun e=>hpq (by rw [←e,hrq])),if_pos hrq];rfl
 ·rw [if_neg hrq]
  by_cases hrp:r=p
  ·rw [if_pos hrp,if_pos hrp];rfl
  ·rw [if_neg hrp,if_neg hrp,if_neg hrq]
structure WI (P:Lnk) (B:Bonds) (c:Nat):Prop where
 len:∀r,(Bd B r).length≤c
 iff:∀(p q:Pl) d,(⟨pl q,d⟩:fold_bond)∈Bd B (pl p)↔both P p q d
 form:∀r b,b∈Bd B r→∃p q:Pl,r=pl p∧b.to=pl q
def A55 (P:Lnk) (p q:Pl) (d:Int):Lnk:=fun a b e=>P a b e∨(a=p∧b=q∧e=d)
theorem WI.link {P:Lnk} {B:Bonds} {c:Nat} (h:WI P B c) (hc:c≤100000000) (F:Nat) (W:Rays) {p q:Pl} (hpq:p≠q) (d:Int):∃B',Cv F ⟨W,B⟩ (pl p) (pl q) d=some ⟨W,B'⟩∧WI (A55 P p q d) B' (c+1):=by
 have h1:=h.len (pl p);have h2:=h.len (pl q);obtain ⟨B',b1,b2⟩:=A5q F W B (fun e=>hpq (Mg e)) d (by omega) (by omega);refine ⟨B',b1,fun r=>?_,fun a b e=>?_,fun r b hb=>?_⟩
 ·have h3:=h.len r;rw [b2]
  split
  ·simp;omega
  ·split
   ·simp;omega
   ·omega
 ·rw [b2];have hi:=h.iff a b e;unfold both A55 at *
  by_cases hap:a=p
  ·subst hap;rw [if_pos rfl,List.mem_append,List.mem_singleton,hi];have hn:¬(a=q):=hpq;constructor
   ·rintro ((h|h)|h)
    ·exact .inl (.inl h)
    ·exact .inr (.inl h)
    ·simp only [fold_bond.mk.injEq] at h;exact .inl (.inr ⟨rfl,Mg h.1,h.2⟩)
   ·rintro ((h|⟨_,rfl,rfl⟩)|(h|⟨_,h,_⟩))
    ·exact .inl (.inl h)
    ·exact .inr rfl
    ·exact .inl (.inr h)
    ·exact absurd h hn
  ·rw [if_neg (fun e=>hap (Mg e))]
   by_cases haq:a=q
   ·subst haq;rw [if_pos rfl,List.mem_append,List.mem_singleton,hi];constructor
    ·rintro ((h|h)|h)
     ·exact .inl (.inl h)
     ·exact .inr (.inl h)
     ·simp only [fold_bond.mk.injEq] at h;exact .inr (.inr ⟨Mg h.1,rfl,h.2⟩)
    ·rintro ((h|⟨h,_⟩)|(h|⟨rfl,_,rfl⟩))
     ·exact .inl (.inl h)
     ·exact absurd h hap
     ·exact .inl (.inr h)
     ·exact .inr rfl
   ·rw [if_neg (fun e=>haq (Mg e)),hi];constructor
    ·rintro (h|h)
     ·exact .inl (.inl h)
     ·exact .inr (.inl h)
    ·rintro ((h|⟨h,_⟩)|(h|⟨_,h,_⟩))
     ·exact .inl h
     ·exact absurd h hap
     ·exact .inr h
     ·exact absurd h haq
 ·rw [b2] at hb
  split at hb
  ·rename_i e
   rcases List.mem_append.1 hb with hb|hb
   ·obtain ⟨a,b',e1,e2⟩:=h.form _ _ hb;exact ⟨p,b',e,e2⟩
   ·simp at hb;subst hb;exact ⟨p,q,e,rfl⟩
  ·split at hb
   ·rename_i e
    rcases List.mem_append.1 hb with hb|hb
    ·obtain ⟨a,b',e1,e2⟩:=h.form _ _ hb;exact ⟨q,b',e,e2⟩
    ·simp at hb;subst hb;exact ⟨q,p,e,rfl⟩
   ·exact h.form r b hb
theorem WI.same {P Q:Lnk} {B:Bonds} {c c':Nat} (h:WI P B c) (hc:c≤c') (hPQ:∀p q d,P p q d↔Q p q d):WI Q B c' :=
 ⟨fun r=>Nat.le_trans (h.len r) hc,fun p q d=>by rw [h.iff];unfold both;rw [hPQ,hPQ],h.form⟩
section
variable {S:Rays} {br jp:Int} {n m:Nat} {F:Nat}
theorem Z9 (hS:Shape S n m) (hn:n≤1000) (hm:m≤1000) (hj:0≤jp∧jp≤400000) (hb:br≤16) {a i:Nat} (ha:a<n) (hi:i<m) (hk:ne (S.getD a []) i=true) (k5:Rays→Bonds→Int→Option fold_web) (t0:Int) (W:Rays) {P:Lnk} {B:Bonds} {c:Nat} (hW:WI P B c) (hc:c≤10000000) :
  ∀(t N k:Nat),k+t=n→1≤k→t<N→(∀k',1≤k'→k'<k→ne (S.getD ((a+k')%n) []) i=false) →
  ∃B',E6 F S jp br (a:Int) t0 k5 (i:Int) W B N (k:Int)=Ew t0 k5 W B'∧WI (fun p q d=>P p q d∨(p=(a,i)∧LO S br jp p q d)) B' (c+1):=by
 have hnone:∀k:Nat,((k:Int)>br∨k≥n)→(∀k',1≤k'→k'<k→ne (S.getD ((a+k')%n) []) i=false)→∀p q d,¬(p=(a,i)∧LO S br jp p q d):=by
  rintro k hk1 hno p q d ⟨rfl,h1,h2,h3,k2,h4,h5,h6⟩;obtain ⟨g1,g2,g3,g4,g5⟩:=h4;rw [hS.1] at g3 g4;have:k2<k:=by omega
  rw [hno k2 g1 this] at g4
  cases g4
 intro t
 induction t with
 | zero =>
  intro N k hkt h1 hN hno;obtain ⟨N,rfl⟩:∃N',N=N'+1:=⟨N-1,by omega⟩;refine ⟨B,?_,hW.same (by omega) fun p q d=>⟨.inl,fun h=>h.elim id fun h=>absurd h (hnone k (.inr (by omega)) hno p q d)⟩⟩;show Eu F S jp br (a:Int) t0 k5 (i:Int) W B (E6 F S jp br (a:Int) t0 k5 (i:Int) W B N) (k:Int)=_;unfold Eu;rw [hS.1,ckb (by omega),B9 (by simp only [decide_eq_false_iff_not];split<;>omega)]
 | succ t ih =>
  intro N k hkt h1 hN hno;obtain ⟨N,rfl⟩:∃N',N=N'+1:=⟨N-1,by omega⟩;have s1:E6 F S jp br (a:Int) t0 k5 (i:Int) W B (N+1) (k:Int)=Eu F S jp br (a:Int) t0 k5 (i:Int) W B (E6 F S jp br (a:Int) t0 k5 (i:Int) W B N) (k:Int):=rfl;rw [s1];unfold Eu;rw [hS.1,ckb (by omega)]
  by_cases hkb:(k:Int)≤br
  ·rw [C9 (by simp only [decide_eq_true_eq];split<;>omega)];have hal:a<S.length:=by rw [hS.1];exact ha
   have hb2:(a+k)%n<n:=Nat.mod_lt _ (by omega);have hb3:(a+k)%n<S.length:=by rw [hS.1];exact hb2
   have hrow2:=hS.row hb2;have hjk:0≤jp*(k:Int)∧jp*(k:Int)≤1000000000:=by
    have e1:=Int.mul_nonneg hj.1 (Int.natCast_nonneg k);have e2:jp*(k:Int)≤400000*16:=Int.mul_le_mul hj.2 (by omega) (by omega) (by omega);omega
   have e3:((a:Int)+(k:Int))=((a+k:Nat):Int):=by omega
   rw [e3,ckb (by omega),B0l (by omega),A15 hb3,A38 (by rw [hrow2];exact hi),A88]
   cases hq:ne (S.getD ((a+k)%n) []) i with
   | true =>
    have hl:LO S br jp (a,i) ((a+k)%n,i) (jp*(k:Int)):=⟨hal,hk,rfl,k,⟨h1,hkb,by rw [hS.1];omega,by rw [hS.1];exact hq,by rw [hS.1];exact hno⟩,by rw [hS.1],rfl⟩;have hne:=(Rw (br:=br) (jp:=jp) hS (.inr hl)).2.2.2.2;obtain ⟨B',b1,b2⟩:=hW.link (by omega) F W hne (jp*(k:Int));refine ⟨B',?_,b2.same (Nat.le_refl _) fun p q d=>?_⟩
    ·rw [C9 rfl,ckb (by omega)];show ((Cv F ⟨W,B⟩ (pl (a,i)) (pl ((a+k)%n,i)) (jp*(k:Int))).bind fun y=>Ew t0 k5 y.sets y.bonds)=_;rw [b1,sb]
    ·unfold A55;constructor
     ·rintro (h|⟨rfl,rfl,rfl⟩)
      ·exact .inl h
      ·exact .inr ⟨rfl,hl⟩
     ·rintro (h|⟨rfl,g1,g2,g3,k2,g4,g5,g6⟩)
      ·exact .inl h
      ·have hk2:k2=k:=by
        obtain ⟨f1,f2,f3,f4,f5⟩:=g4;rw [hS.1] at f3 f4 f5;rcases Nat.lt_trichotomy k2 k with hlt|hlt|hlt
        ·have:=hno k2 f1 hlt;rw [this] at f4;cases f4
        ·exact hlt
        ·have:=f5 k h1 hlt;rw [this] at hq;cases hq
       subst hk2;refine .inr ⟨rfl,?_,g6⟩;rw [hS.1] at g5;exact Prod.ext g5 g3.symm
   | false =>
    rw [B9 rfl,ckb (by omega),Qe];exact ih N (k+1) (by omega) (by omega) (by omega) (fun k' q1 q2=>by
     by_cases hkk:k'=k
     ·subst hkk;exact hq
     ·exact hno k' q1 (by omega))
  ·rw [B9 (by simp only [decide_eq_false_iff_not];split<;>omega)];exact ⟨B,rfl,hW.same (by omega) fun p q d=>⟨.inl,fun h=>h.elim id fun h=>absurd h (hnone k (.inl (by omega)) hno p q d)⟩⟩
theorem A9s {T:Jl} {u:Nat} (h0:0<u) (hu:u<(Kn T).length) {x y:Nat}:(lk T br x y∧y=kn T u)↔(x=kn T (u-1)∧y=kn T u∧((kn T u:Nat):Int)-(kn T (u-1):Nat)≤br):=by
 have hm1:=Lx.1 (M6 hu).1;have hm0:=Lx.1 (M6 (S:=T) (t:=u-1) (by omega)).1;have hlt:=A3i (S:=T) (t:=u-1) (u:=u) (by omega) hu;have hbt:∀x,kn T (u-1)<x→x<kn T u→ne T x=false:=fun x h1 h2=>A59 (S:=T) (t:=u-1) (by omega) h1 (by rw [show u-1+1=u by omega];exact h2);constructor
 ·rintro ⟨⟨g1,g2,g3,g4,g5,g6⟩,rfl⟩;have hx:x=kn T (u-1):=by
   rcases Nat.lt_trichotomy x (kn T (u-1)) with h|h|h
   ·have:=g5 _ h hlt;rw [this] at hm0;exact absurd hm0.2 (by simp)
   ·exact h
   ·have:=hbt x h g1;rw [this] at g3;cases g3
  subst hx;exact ⟨rfl,rfl,g6⟩
 ·rintro ⟨rfl,rfl,h3⟩;exact ⟨⟨hlt,hm1.1,hm0.2,hm1.2,hbt,h3⟩,rfl⟩
def QW (S:Rays) (br jp:Int) (a t:Nat):Lnk:=fun p q d=>p.1=a∧((LA S br jp p q d∧∃u,t≤u∧u<(Kn (S.getD a [])).length∧q.2=kn (S.getD a []) u)∨(LO S br jp p q d∧∃u,t≤u∧u<(Kn (S.getD a [])).length∧p.2=kn (S.getD a []) u))
theorem A6m (hF:FF≤F) (hS:Shape S n m) (hn:n≤1000) (hm:m≤1000) (hj:0≤jp∧jp≤400000) (hb:br≤16) {a:Nat} (ha:a<n) (k2:Rays→Bonds→Int→Option fold_web) (W:Rays) :
  ∀(s N t:Nat) (P:Lnk) (B:Bonds) (c:Nat),t+s=(Kn (S.getD a [])).length→s<N→WI P B c→c+2*s≤10000000 →
  ∃B',Co F S jp br (a:Int) k2 (S.getD a []) (toI (Kn (S.getD a []))) N W B (t:Int)=E5 F (a:Int) k2 (S.getD a []) W B'∧WI (fun p q d=>P p q d∨QW S br jp a t p q d) B' (c+2*s):=by
 have hal:a<S.length:=by rw [hS.1];exact ha
 have hrow:=hS.row ha;have hKn:=Ux (S:=S.getD a []);have hkl:(toI (Kn (S.getD a []))).length=(Kn (S.getD a [])).length:=by unfold toI;rw [List.length_map]
 have hF':=hF;unfold FF at hF';intro s
 induction s with
 | zero =>
  intro N t P B c hts hN hW hc;obtain ⟨N,rfl⟩:∃N',N=N'+1:=⟨N-1,by omega⟩;refine ⟨B,?_,hW.same (by omega) fun p q d=>⟨.inl,fun h=>h.elim id fun h=>?_⟩⟩
  ·show Et F S jp br (a:Int) k2 (S.getD a []) (toI (Kn (S.getD a []))) (Co F S jp br (a:Int) k2 (S.getD a []) (toI (Kn (S.getD a []))) N) W B (t:Int)=_;unfold Et;rw [hkl,B9 (by simp only [decide_eq_false_iff_not];omega)]
  ·obtain ⟨_,⟨_,u,u1,u2,_⟩|⟨_,u,u1,u2,_⟩⟩:=h<;>omega
 | succ s ih =>
  intro N t P B c hts hN hW hc;obtain ⟨N,rfl⟩:∃N',N=N'+1:=⟨N-1,by omega⟩;have s1:Co F S jp br (a:Int) k2 (S.getD a []) (toI (Kn (S.getD a []))) (N+1) W B (t:Int)=Et F S jp br (a:Int) k2 (S.getD a []) (toI (Kn (S.getD a []))) (Co F S jp br (a:Int) k2 (S.getD a []) (toI (Kn (S.getD a []))) N) W B (t:Int):=rfl;rw [s1];have htl:t<(Kn (S.getD a [])).length:=by omega
  have hkt:=Lx.1 (M6 htl).1;rw [hrow] at hkt;have fin:∀(P1:Lnk) (B1:Bonds),WI P1 B1 (c+1)→(∀p q d,P1 p q d↔P p q d∨(p.1=a∧LA S br jp p q d∧q.2=kn (S.getD a []) t)) →
    ∃B',Fl F S jp br (a:Int) (t:Int) (Co F S jp br (a:Int) k2 (S.getD a []) (toI (Kn (S.getD a []))) N) ((kn (S.getD a []) t:Nat):Int) W B1=E5 F (a:Int) k2 (S.getD a []) W B'∧WI (fun p q d=>P p q d∨QW S br jp a t p q d) B' (c+2*(s+1)):=by
   intro P1 B1 hW1 hP1;unfold Fl;obtain ⟨B2,b1,b2⟩:=Z9 (F:=F) hS hn hm hj hb ha hkt.1 hkt.2 (Co F S jp br (a:Int) k2 (S.getD a []) (toI (Kn (S.getD a []))) N) (t:Int) W hW1 (by omega) (n-1) F 1 (by omega) (by omega) (by omega) (fun k' h1 h2=>by omega);rw [show ((1:Nat):Int)=1 from rfl] at b1;rw [b1];unfold Ew;rw [ckb (by omega),Qe];obtain ⟨B3,c1,c2⟩:=ih N (t+1) _ B2 (c+1+1) (by omega) (by omega) b2 (by omega);refine ⟨B3,c1,c2.same (by omega) fun p q d=>?_⟩;rw [hP1];constructor
   ·rintro (((h|⟨h1,h2,h3⟩)|⟨rfl,h2⟩)|⟨h1,⟨h2,u,u1,u2,u3⟩|⟨h2,u,u1,u2,u3⟩⟩)
    ·exact .inl h
    ·exact .inr ⟨h1,.inl ⟨h2,t,Nat.le_refl _,htl,h3⟩⟩
    ·exact .inr ⟨rfl,.inr ⟨h2,t,Nat.le_refl _,htl,rfl⟩⟩
    ·exact .inr ⟨h1,.inl ⟨h2,u,by omega,u2,u3⟩⟩
    ·exact .inr ⟨h1,.inr ⟨h2,u,by omega,u2,u3⟩⟩
   ·rintro (h|⟨h1,⟨h2,u,u1,u2,u3⟩|⟨h2,u,u1,u2,u3⟩⟩)
    ·exact .inl (.inl (.inl h))
    ·by_cases hut:u=t
     ·subst hut;exact .inl (.inl (.inr ⟨h1,h2,u3⟩))
     ·exact .inr ⟨h1,.inl ⟨h2,u,by omega,u2,u3⟩⟩
    ·by_cases hut:u=t
     ·subst hut;exact .inl (.inr ⟨Prod.ext h1 u3,h2⟩)
     ·exact .inr ⟨h1,.inr ⟨h2,u,by omega,u2,u3⟩⟩
  unfold Et;rw [hkl,C9 (by simp only [decide_eq_true_eq];omega),A39 htl]
  by_cases ht0:t=0
  ·subst ht0;have eg:((decide (((0:Nat):Int)>0))==true&&true)=false:=by simp
   rw [gdF eg,sb,gdF eg,sb,gdF eg,sb];rw [B9 (by simp)];refine fin P B (hW.same (by omega) fun _ _ _=>Iff.rfl) fun p q d=>⟨.inl,fun h=>h.elim id ?_⟩;rintro ⟨rfl,⟨h1,h2,h3,h4⟩,h5⟩;exfalso;have:=A2n (S:=S.getD p.1 []) (by omega) (by rw [←h5];exact h3.1);have h6:=h3.2.2.1;rw [this] at h6;cases h6
  ·have eg:((decide ((t:Int)>0))==true&&true)=true:=by simp;omega
   have e1:((t:Int)-1)=((t-1:Nat):Int):=by omega
   have hkp:=Lx.1 (M6 (S:=S.getD a []) (t:=t-1) (by omega)).1;rw [hrow] at hkp;have hlt:=A3i (S:=S.getD a []) (t:=t-1) (u:=t) (by omega) htl;rw [gdT eg,ckb (by omega),e1,gdT eg,A39 (by omega),gdT eg,ckb (by omega)];have e2:decide ((t:Int)>0)=true:=by simp;omega
   rw [e2];have hlk:=fun {x y:Nat}=>A9s (br:=br) (T:=S.getD a []) (u:=t) (by omega) htl (x:=x) (y:=y)
   by_cases hd:((kn (S.getD a []) t:Nat):Int)-((kn (S.getD a []) (t-1):Nat):Int)≤br
   ·have e3:(bif true then (decide (((kn (S.getD a []) t:Nat):Int)-((kn (S.getD a []) (t-1):Nat):Int)≤br)) else false)=true:=by rw [cond_true];simpa using hd
    rw [e3];refine (congrArg (fun z=>∃B',z=E5 F (a:Int) k2 (S.getD a []) W B'∧WI (fun p q d=>P p q d∨QW S br jp a t p q d) B' (c+2*(s+1))) (C9 rfl)).mpr ?_;have hdj:0≤jp*(((kn (S.getD a []) t:Nat):Int)-((kn (S.getD a []) (t-1):Nat):Int))∧jp*(((kn (S.getD a []) t:Nat):Int)-((kn (S.getD a []) (t-1):Nat):Int))≤1000000000:=by
     have q1:=Int.mul_nonneg hj.1 (show (0:Int)≤((kn (S.getD a []) t:Nat):Int)-((kn (S.getD a []) (t-1):Nat):Int) by omega);have q2:jp*(((kn (S.getD a []) t:Nat):Int)-((kn (S.getD a []) (t-1):Nat):Int))≤400000*16:=Int.mul_le_mul hj.2 (by omega) (by omega) (by omega);omega
    have hne:((a,kn (S.getD a []) (t-1)):Pl)≠(a,kn (S.getD a []) t):=fun e=>by simp only [Prod.mk.injEq] at e;omega
    obtain ⟨B1,b1,b2⟩:=hW.link (by omega) F W hne (jp*(((kn (S.getD a []) t:Nat):Int)-((kn (S.getD a []) (t-1):Nat):Int)));rw [ckb (by omega),A39 (by omega),ckb (by omega),A39 (by omega),ckb (by omega),ckb (by omega)];have b1':Cv F { sets:=W,bonds:=B } { ray:=(a:Int),gate:=((kn (S.getD a []) (t-1):Nat):Int) } { ray:=(a:Int),gate:=((kn (S.getD a []) t:Nat):Int) } (jp*(((kn (S.getD a []) t:Nat):Int)-((kn (S.getD a []) (t-1):Nat):Int)))=some ⟨W,B1⟩:=b1;rw [b1',sb];refine fin _ B1 b2 fun p q d=>?_;unfold A55;constructor
    ·rintro (h|⟨rfl,rfl,rfl⟩)
     ·exact .inl h
     ·exact .inr ⟨rfl,⟨rfl,hal,(hlk.2 ⟨rfl,rfl,hd⟩).1,rfl⟩,rfl⟩
    ·rintro (h|⟨h0,⟨h1,h2,h3,h4⟩,h5⟩)
     ·exact .inl h
     ·rw [h0] at h3;obtain ⟨g1,g2,g3⟩:=hlk.1 ⟨h3,h5⟩;refine .inr ⟨Prod.ext h0 g1,Prod.ext (h1▸h0) g2,?_⟩;rw [h4,g1,g2]
   ·have e3:(bif true then (decide (((kn (S.getD a []) t:Nat):Int)-((kn (S.getD a []) (t-1):Nat):Int)≤br)) else false)=false:=by rw [cond_true];simpa using hd
    rw [e3];refine (congrArg (fun z=>∃B',z=E5 F (a:Int) k2 (S.getD a []) W B'∧WI (fun p q d=>P p q d∨QW S br jp a t p q d) B' (c+2*(s+1))) (B9 rfl)).mpr ?_;refine fin P B (hW.same (by omega) fun _ _ _=>Iff.rfl) fun p q d=>⟨.inl,fun h=>h.elim id ?_⟩;rintro ⟨h0,⟨h1,h2,h3,h4⟩,h5⟩;rw [h0] at h3;exact absurd (hlk.1 ⟨h3,h5⟩).2.2 hd
theorem A77 (hS:Shape S n m) {a:Nat} (p q:Pl) (d:Int):QW S br jp a 0 p q d↔p.1=a∧LL S br jp p q d:=by
 unfold QW LL;constructor
 ·rintro ⟨h,⟨h1,_⟩|⟨h1,_⟩⟩
  ·exact ⟨h,.inl h1⟩
  ·exact ⟨h,.inr h1⟩
 ·rintro ⟨rfl,h|h⟩
  ·obtain ⟨h1,h2,h3,h4⟩:=h;obtain ⟨u,u1,u2⟩:=Ue (S:=S.getD p.1 []) h3.2.1 h3.2.2.2.1;exact ⟨rfl,.inl ⟨⟨h1,h2,h3,h4⟩,u,Nat.zero_le _,u1,u2.symm⟩⟩
  ·have h2:=h.2.1;obtain ⟨u,u1,u2⟩:=Ue (S:=S.getD p.1 []) (A01 h2) h2;exact ⟨rfl,.inr ⟨h,u,Nat.zero_le _,u1,u2.symm⟩⟩
theorem A6l (hF:FF≤F) (hS:Shape S n m) (hn:n≤1000) (hm:m≤1000) (hj:0≤jp∧jp≤400000) (hb:br≤16) :
  ∀(t N a:Nat) (P:Lnk) (B:Bonds) (c:Nat),a+t=n→t<N→WI P B c→c+t*(2*m)≤9000000 →
  ∃B',Da F S jp br N (S.take a) B (a:Int)=some ⟨S,B'⟩∧WI (fun p q d=>P p q d∨(a≤p.1∧LL S br jp p q d)) B' (c+t*(2*m)):=by
 have hF':=hF;unfold FF at hF';intro t
 induction t with
 | zero =>
  intro N a P B c hat hN hW hc;obtain ⟨N,rfl⟩:∃N',N=N'+1:=⟨N-1,by omega⟩;refine ⟨B,?_,hW.same (by omega) fun p q d=>⟨.inl,fun h=>h.elim id fun h=>?_⟩⟩
  ·show Es F S jp br (Da F S jp br N) (S.take a) B (a:Int)=_;unfold Es;rw [hS.1,B9 (by simp;omega),List.take_of_length_le (by rw [hS.1];omega)];rfl
  ·have:=Rw hS h.2;omega
 | succ t ih =>
  intro N a P B c hat hN hW hc;obtain ⟨N,rfl⟩:∃N',N=N'+1:=⟨N-1,by omega⟩;have s1:Da F S jp br (N+1) (S.take a) B (a:Int)=Es F S jp br (Da F S jp br N) (S.take a) B (a:Int):=rfl;rw [s1];have hal:a<S.length:=by rw [hS.1];omega
  have hrow:=hS.row (a:=a) (by omega);have hKn:=Ux (S:=S.getD a []);rw [Nat.add_mul] at hc;unfold Es;rw [hS.1,C9 (by simp;omega),A15 hal,Wr hF (by rw [hrow];omega),sb];obtain ⟨B1,b1,b2⟩:=A6m hF hS hn hm hj hb (a:=a) (by omega) (Da F S jp br N) (S.take a) (Kn (S.getD a [])).length F 0 P B c (by omega) (by omega) hW (by omega);rw [show ((0:Nat):Int)=0 from rfl] at b1;rw [b1];unfold E5 Ax Jg;have ht:(S.take a).length=a:=by rw [List.length_take];omega
  rw [Kr (by rw [hrow];simp;omega),sb,List.nil_append,Kr (by rw [ht];simp;omega),ckb (by omega),Qe];have e:S.take a++[S.getD a []]=S.take (a+1):=by
   rw [List.take_add_one]
   congr 1
   rw [List.getD_eq_getElem?_getD,List.getElem?_eq_getElem hal];rfl
  rw [e];obtain ⟨B2,c1,c2⟩:=ih N (a+1) _ B1 (c+2*m) (by omega) (by omega) (b2.same (by omega) fun _ _ _=>Iff.rfl) (by omega);refine ⟨B2,c1,c2.same (by rw [Nat.add_mul];omega) fun p q d=>?_⟩;rw [A77 hS];constructor
  ·rintro ((h|⟨h1,h2⟩)|⟨h1,h2⟩)
   ·exact .inl h
   ·exact .inr ⟨by omega,h2⟩
   ·exact .inr ⟨by omega,h2⟩
  ·rintro (h|⟨h1,h2⟩)
   ·exact .inl (.inl h)
   ·by_cases hpa:p.1=a
    ·exact .inl (.inr ⟨hpa,h2⟩)
    ·exact .inr ⟨by omega,h2⟩
theorem A50 (hF:FF≤F) (hS:Shape S n m) (hn:n≤1000) (hm:m≤1000) (hj:0≤jp∧jp≤400000) (hb:br≤16) :
  ∃B,Lh F S jp br=some ⟨S,B⟩∧WI (LL S br jp) B 9000000:=by
 have hF':=hF;unfold FF at hF';have hnm:n*(2*m)≤1000*(2*1000):=Nat.mul_le_mul hn (by omega);obtain ⟨B,b1,b2⟩:=A6l hF hS hn hm hj hb n F 0 (fun _ _ _=>False) [] 0 (by omega) (by omega) ⟨fun r=>by simp [Bd,lkM],fun p q d=>by simp [Bd,lkM,both],fun r b hb=>by simp [Bd,lkM] at hb⟩ (by omega);refine ⟨B,b1,b2.same (by omega) fun p q d=>⟨fun h=>h.elim False.elim fun h=>h.2,fun h=>.inr ⟨Nat.zero_le _,h⟩⟩⟩
end
end Go.Proofs.Ytbhjgebjojdohaa
namespace Go.Proofs.Ytbhjgebjojdohaa
open Go Go.RowKit Go.Eng
set_option maxRecDepth 10000
set_option linter.unusedVariables false
set_option linter.unusedSimpArgs false
theorem nb {α β:Type} {f:α→Option β}:(none:Option α).bind f=none:=rfl
abbrev Waits:=List (fold_place×Bool)
structure TI (B:Waits) (todo:List fold_place):Prop where
 nd:keysNd B
 inl:∀r,(lkM B r).getD false=true→r∈todo
theorem A0g (F:Nat) (r:fold_place) {B:Waits} {todo:List fold_place} (h:TI B todo) (hl:todo.length≤8000000000000):∃B' todo',Cn F r B todo=some (B',todo')∧TI B' todo'∧r∈todo'∧(∀x,x∈todo→x∈todo')∧(∀x,x∈todo'→x∈todo∨x=r)∧todo'.length≤todo.length+1:=by
 unfold Cn
 cases hb:(lkM B r).getD false with
 | true =>
  refine ⟨B,todo,B9 rfl,h,h.inl r hb,fun _ h=>h,fun _ h=>.inl h,by omega⟩
 | false =>
  refine ⟨upM B r true,todo++[r],?_,⟨B0b h.nd r true,fun x hx=>?_⟩,by simp,fun x hx=>by simp [hx],fun x hx=>by simpa using hx,by simp⟩
  ·refine (C9 rfl).trans ?_;rw [Kr (by simp;omega)]
  ·rw [Zz] at hx
   split at hx
   ·rename_i e;simp [e]
   ·simp [h.inl x hx]
section
variable {S:Rays} {br jp:Int} {n m:Nat} {F:Nat}
theorem W4 (hF:FF≤F) {a:Nat} {T:Jl} (hT:T.length≤1000) (k6:List fold_place→Waits→Int→Option Rays) (x:Int):∀(s N t:Nat) (B:Waits) (todo:List fold_place),t+s=(Kn T).length→s<N→TI B todo→todo.length+s≤2000000 →
  ∃B' todo',Cs F (a:Int) k6 (toI (Kn T)) N todo B (t:Int)=G2 (a:Int) k6 todo' B'∧TI B' todo'∧(∀x,x∈todo→x∈todo')∧(∀u,t≤u→u<(Kn T).length→pl (a,kn T u)∈todo')∧(∀x,x∈todo'→x∈todo∨∃u,u<(Kn T).length∧x=pl (a,kn T u))∧todo'.length≤todo.length+s:=by
 have hkl:(toI (Kn T)).length=(Kn T).length:=by unfold toI;rw [List.length_map]
 have hKn:=Ux (S:=T);intro s
 induction s with
 | zero =>
  intro N t B todo hts hN hI hl;obtain ⟨N,rfl⟩:∃N',N=N'+1:=⟨N-1,by omega⟩;refine ⟨B,todo,?_,hI,fun _ h=>h,fun u h1 h2=>by omega,fun _ h=>.inl h,by omega⟩;show Eg F (a:Int) k6 (toI (Kn T)) (Cs F (a:Int) k6 (toI (Kn T)) N) todo B (t:Int)=_;unfold Eg;rw [hkl,B9 (by simp;omega)]
 | succ s ih =>
  intro N t B todo hts hN hI hl;obtain ⟨N,rfl⟩:∃N',N=N'+1:=⟨N-1,by omega⟩;have s1:Cs F (a:Int) k6 (toI (Kn T)) (N+1) todo B (t:Int)=Eg F (a:Int) k6 (toI (Kn T)) (Cs F (a:Int) k6 (toI (Kn T)) N) todo B (t:Int):=rfl;rw [s1];obtain ⟨B1,t1,w1,w2,w3,w4,w5,w6⟩:=A0g F (pl (a,kn T t)) hI (by omega);obtain ⟨B2,t2,g1,g2,g3,g4,g5,g6⟩:=ih N (t+1) B1 t1 (by omega) (by omega) w2 (by omega);refine ⟨B2,t2,?_,g2,fun x hx=>g3 x (w4 x hx),fun u h1 h2=>?_,fun x hx=>?_,by omega⟩
  ·rw [←g1];unfold Eg;rw [hkl,C9 (by simp;omega),A39 (by omega)];show ((Cn F (pl (a,kn T t)) B todo).bind fun y=>(ck ((t:Int)+1)).bind fun z=>Cs F (a:Int) k6 (toI (Kn T)) N y.2 y.1 z)=_;rw [w1,sb,ckb (by omega),Qe]
  ·by_cases hut:u=t
   ·subst hut;exact g3 _ w3
   ·exact g4 u (by omega) h2
  ·rcases g5 x hx with h|h
   ·rcases w5 x h with h|h
    ·exact .inl h
    ·exact .inr ⟨t,by omega,h⟩
   ·exact .inr h
theorem A0n (hF:FF≤F) (hS:Shape S n m) (hn:n≤1000) (hm:m≤1000) (y5:fold_web):∀(t N a:Nat) (B:Waits) (todo:List fold_place),a+t=n→t<N→TI B todo→todo.length+t*m≤2000000→(∀x,x∈todo→∃p:Pl,x=pl p∧p.1<n∧p.2<m) →
  (∀p:Pl,p.1<a→ne (S.getD p.1 []) p.2=true→pl p∈todo) →
  ∃B' todo',Cr F S y5 N todo B (a:Int)=G1 F y5 todo' B'∧TI B' todo'∧(∀x,x∈todo'→∃p:Pl,x=pl p∧p.1<n∧p.2<m)∧(∀p:Pl,p.1<n→ne (S.getD p.1 []) p.2=true→pl p∈todo')∧todo'.length≤todo.length+t*m:=by
 have hF':=hF;unfold FF at hF';intro t
 induction t with
 | zero =>
  intro N a B todo hat hN hI hl hin hall;obtain ⟨N,rfl⟩:∃N',N=N'+1:=⟨N-1,by omega⟩;refine ⟨B,todo,?_,hI,hin,fun p h1 h2=>hall p (by omega) h2,by omega⟩;show Ef F S y5 (Cr F S y5 N) todo B (a:Int)=_;unfold Ef;rw [hS.1,B9 (by simp;omega)]
 | succ t ih =>
  intro N a B todo hat hN hI hl hin hall;obtain ⟨N,rfl⟩:∃N',N=N'+1:=⟨N-1,by omega⟩;have s1:Cr F S y5 (N+1) todo B (a:Int)=Ef F S y5 (Cr F S y5 N) todo B (a:Int):=rfl;rw [s1];have hal:a<S.length:=by rw [hS.1];omega
  have hrow:=hS.row (a:=a) (by omega);have hKn:=Ux (S:=S.getD a []);rw [hrow] at hKn;rw [Nat.add_mul] at hl;obtain ⟨B1,t1,w1,w2,w3,w4,w5,w6⟩:=W4 hF (a:=a) (T:=S.getD a []) (by rw [hrow];exact hm) (Cr F S y5 N) 0 (Kn (S.getD a [])).length F 0 B todo (by omega) (by omega) hI (by omega);obtain ⟨B2,t2,g1,g2,g3,g4,g5⟩:=ih N (a+1) B1 t1 (by omega) (by omega) w2 (by omega) (fun x hx=>by
   rcases w5 x hx with h|⟨u,h1,h2⟩
   ·exact hin x h
   ·have:=(Lx.1 (M6 h1).1).1;rw [hrow] at this;exact ⟨(a,kn (S.getD a []) u),h2,by show a<n;omega,this⟩) (fun p hp hne=>by
   by_cases hpa:p.1=a
   ·rw [hpa] at hne;obtain ⟨u,h1,h2⟩:=Ue (A01 hne) hne;have:=w4 u (Nat.zero_le _) h1;rw [h2,←hpa] at this;exact this
   ·exact w3 _ (hall p (by omega) hne))
  refine ⟨B2,t2,?_,g2,g3,g4,by rw [Nat.add_mul];omega⟩;rw [←g1];unfold Ef;rw [hS.1,C9 (by simp;omega),A15 hal,Wr hF (by rw [hrow];omega),sb];rw [show ((0:Nat):Int)=0 from rfl] at w1;rw [w1];unfold G2;rw [ckb (by omega),Qe]
structure MI (S:Rays) (R:Lnk) (n m:Nat) (W:Rays) (todo:List fold_place) (B:Waits):Prop where
 inv:Inv S R n m W
 ti:TI B todo
 inr:∀x,x∈todo→∃p:Pl,x=pl p∧p.1<n∧p.2<m
theorem Z7 (hF:FF≤F) {R:Lnk} (hR:∀p q d,both R p q d→0≤d∧d≤1000000000∧p.1<n∧p.2<m∧q.1<n∧q.2<m) {B0:Bonds} {c0:Nat} (hW0:WI R B0 c0) (hc0:c0≤9000000) (S0:Rays) (p:Pl) (hp:p.1<n∧p.2<m) (k3:List fold_place→Rays→Waits→Option Rays) :
  ∀(t N k:Nat) (W:Rays) (todo:List fold_place) (B:Waits),k+t=(Bd B0 (pl p)).length→t<N→MI S R n m W todo B→todo.length+t≤5000000000000 →
  (∀r q d,both R r q d→pl r∈todo∨Xt (gf W) r q d∨(r=p∧(⟨pl q,d⟩:fold_bond)∈(Bd B0 (pl p)).drop k)) →
  ∃W' todo' B',Ba F ⟨S0,B0⟩ k3 (pl p) N todo W B (k:Int)=k3 todo' W' B'∧MI S R n m W' todo' B'∧(∀r q d,both R r q d→pl r∈todo'∨Xt (gf W') r q d)∧todo'.length+Vol W'≤todo.length+Vol W:=by
 have hlen:=hW0.len (pl p);intro t
 induction t with
 | zero =>
  intro N k W todo B hk hN hM hl hs;obtain ⟨N,rfl⟩:∃N',N=N'+1:=⟨N-1,by omega⟩;refine ⟨W,todo,B,?_,hM,fun r q d h=>?_,Nat.le_refl _⟩
  ·show Di F ⟨S0,B0⟩ k3 (pl p) (Ba F ⟨S0,B0⟩ k3 (pl p) N) todo W B (k:Int)=_;unfold Di;refine B9 ?_;show decide ((k:Int)<(((Bd B0 (pl p)).length:Nat):Int))=false;simp;omega
  ·rcases hs r q d h with h|h|⟨_,h⟩
   ·exact .inl h
   ·exact .inr h
   ·rw [List.drop_eq_nil_of_le (by omega)] at h;cases h
 | succ t ih =>
  intro N k W todo B hk hN hM hl hs;obtain ⟨N,rfl⟩:∃N',N=N'+1:=⟨N-1,by omega⟩;have s1:Ba F ⟨S0,B0⟩ k3 (pl p) (N+1) todo W B (k:Int)=Di F ⟨S0,B0⟩ k3 (pl p) (Ba F ⟨S0,B0⟩ k3 (pl p) N) todo W B (k:Int):=rfl;rw [s1];have hkl:k<(Bd B0 (pl p)).length:=by omega
  have hmem:(Bd B0 (pl p))[k]∈Bd B0 (pl p):=List.getElem_mem hkl;obtain ⟨p',q,e1,e2⟩:=hW0.form _ _ hmem;obtain ⟨d,hd⟩:∃d,(Bd B0 (pl p))[k]=⟨pl q,d⟩:=by
   refine ⟨(Bd B0 (pl p))[k].most,?_⟩;rw [←e2]
  rw [hd] at hmem;have hpq:both R p q d:=(hW0.iff p q d).1 hmem;obtain ⟨d1,d2,d3,d4,d5,d6⟩:=hR p q d hpq;have hdrop:(Bd B0 (pl p)).drop k=⟨pl q,d⟩::(Bd B0 (pl p)).drop (k+1):=by rw [List.drop_eq_getElem_cons hkl,hd]
  have hg:=hM.inv.good.good;have hnew:Good (nr (gf W q) (gf W p) d):=(hg q).nr (hg p) d1;have hold:=(hg q).len;have hget:An ((lkM B0 (pl p)).getD []) (k:Int)=some ⟨pl q,d⟩:=by
   show An (Bd B0 (pl p)) (k:Int)=_;unfold An;rw [if_pos (by omega),Int.toNat_natCast,List.getElem?_eq_getElem hkl,hd]
  have hsh:=hM.inv.shape;have key:Di F ⟨S0,B0⟩ k3 (pl p) (Ba F ⟨S0,B0⟩ k3 (pl p) N) todo W B (k:Int) =
    if gf W q=nr (gf W q) (gf W p) d then Ba F ⟨S0,B0⟩ k3 (pl p) N todo W B ((k+1:Nat):Int)
    else (Cn F (pl q) B todo).bind fun y=>Ba F ⟨S0,B0⟩ k3 (pl p) N y.2 (sf W q (nr (gf W q) (gf W p) d)) y.1 ((k+1:Nat):Int):=by
   unfold Di;have e3:decide ((k:Int)<((((lkM B0 (pl p)).getD []).length:Nat):Int))=true:=by
    show decide ((k:Int)<(((Bd B0 (pl p)).length:Nat):Int))=true;simp;omega
   refine (C9 e3).trans ?_;show ((An ((lkM B0 (pl p)).getD []) (k:Int)).bind _)=_;rw [hget,sb];show ((An W (q.1:Int)).bind fun u3280=>(An u3280 (q.2:Int)).bind fun u3288=>(An W (p.1:Int)).bind fun u3295=>(An u3295 (p.2:Int)).bind fun u3303=>(D2 F u3288 u3303 d).bind fun y3311=>(Au F u3288 y3311).bind fun y3314 =>
    bif (!y3314) then ((An W (q.1:Int)).bind fun u3315=>(An u3315 (q.2:Int)).bind fun u3323=>(Ge u3315 (q.2:Int) y3311).bind fun l3334=>(Ge W (q.1:Int) l3334).bind fun l3335=>(Cn F (pl q) B todo).bind fun y3338=>Dj (k:Int) (Ba F ⟨S0,B0⟩ k3 (pl p) N) y3338.2 l3335 y3338.1) else (Dj (k:Int) (Ba F ⟨S0,B0⟩ k3 (pl p) N) todo W B))=_
   have r1:=hsh.row d5;have r2:=hsh.row d3;rw [A15 (by rw [hsh.1];exact d5),A38 (by rw [r1];exact d6),A15 (by rw [hsh.1];exact d3),A38 (by rw [r2];exact d4)];have hne:=A5v hF (hg q) (hg p) ⟨d1,d2⟩;have hne':D2 F (gt (W.getD q.1 []) q.2) (gt (W.getD p.1 []) p.2) d=some (nr (gf W q) (gf W p) d):=hne;rw [hne',sb,Gm hF _ _ (by show (gf W q).length≤_;omega),sb]
   by_cases he:gf W q=nr (gf W q) (gf W p) d
   ·have e4:decide (gt (W.getD q.1 []) q.2=nr (gf W q) (gf W p) d)=true:=decide_eq_true he;rw [e4,if_pos he];refine (B9 rfl).trans ?_;unfold Dj;rw [ckb (by omega),Qe]
   ·have e4:decide (gt (W.getD q.1 []) q.2=nr (gf W q) (gf W p) d)=false:=decide_eq_false he;rw [e4,if_neg he];unfold sf;refine (C9 rfl).trans ?_;rw [A15 (by rw [hsh.1];exact d5),A38 (by rw [r1];exact d6),B0m (by rw [r1];exact d6),B0n (by rw [hsh.1];exact d5)];generalize Cn F (pl q) B todo=o
    cases o with
    | none=>rw [nb,nb]
    | some y =>
     rw [sb,sb];unfold Dj;rw [ckb (by omega),Qe]
  rw [key]
  by_cases he:gf W q=nr (gf W q) (gf W p) d
  ·rw [if_pos he];refine ih N (k+1) W todo B (by omega) (by omega) hM (by omega) fun r q' d' h=>?_;rcases hs r q' d' h with h|h|⟨h1,h2⟩
   ·exact .inl h
   ·exact .inr (.inl h)
   ·rw [hdrop] at h2;rcases List.mem_cons.1 h2 with h7|h7
    ·clear h2
     simp only [fold_bond.mk.injEq] at h7;have hq':=Mg h7.1;have hd':=h7.2
     clear h7
     subst hq' hd' h1;exact .inr (.inl ((A5x hg d1).1 he.symm))
    ·exact .inr (.inr ⟨h1,h7⟩)
  ·rw [if_neg he];obtain ⟨B1,t1,w1,w2,w3,w4,w5,w6⟩:=A0g F (pl q) hM.ti (by omega);rw [w1,sb];obtain ⟨i1,i2⟩:=hM.inv.step (p:=p) (q:=q) d1 ⟨d5,d6⟩ hpq;have hv:=i2 (fun e=>he e.symm);have hgf:=A3a (x:=nr (gf W q) (gf W p) d) hsh ⟨d5,d6⟩;obtain ⟨W',t',B',g1,g2,g3,g4⟩:=ih N (k+1) _ t1 B1 (by omega) (by omega) ⟨i1,w2,fun x hx=>by
    rcases w5 x hx with h|h
    ·exact hM.inr x h
    ·exact ⟨q,h,d5,d6⟩⟩ (by omega) (fun r q' d' h=>by
    by_cases hrq:r=q
    ·subst hrq;exact .inl w3
    ·have hsub:∀x:Pl,∀z,mem z (gf (sf W q (nr (gf W q) (gf W p) d)) x)→mem z (gf W x):=by rw [hgf];exact Wv hg d1
     have hsame:gf (sf W q (nr (gf W q) (gf W p) d)) r=gf W r:=by rw [hgf];unfold Xr;rw [if_neg hrq]
     rcases hs r q' d' h with h|h|⟨h1,h2⟩
     ·exact .inl (w4 _ h)
     ·refine .inr (.inl fun z hz=>?_);rw [hsame];exact h z (hsub q' z hz)
     ·rw [hdrop] at h2;rcases List.mem_cons.1 h2 with h7|h7
      ·clear h2
       simp only [fold_bond.mk.injEq] at h7;have hq':=Mg h7.1;have hd':=h7.2
       clear h7
       subst hq' hd' h1;refine .inr (.inl fun z hz=>?_);rw [hsame];rw [hgf] at hz;unfold Xr at hz;rw [if_pos rfl] at hz;exact ((Nq (hg r).1.2 d1 z).1 hz).2
      ·exact .inr (.inr ⟨h1,h7⟩))
   exact ⟨W',t',B',g1,g2,g3,by omega⟩
theorem Xf (hF:FF≤F) {R:Lnk} (hR:∀p q d,both R p q d→0≤d∧d≤1000000000∧p.1<n∧p.2<m∧q.1<n∧q.2<m) {B0:Bonds} {c0:Nat} (hW0:WI R B0 c0) (hc0:c0≤9000000) (S0:Rays) :
  ∀(v:Nat) (N:Nat) (W:Rays) (todo:List fold_place) (B:Waits),todo.length+Vol W≤v→v<N→v≤4000000000000→MI S R n m W todo B→(∀r q d,both R r q d→pl r∈todo∨Xt (gf W) r q d) →
  ∃G,Cq F ⟨S0,B0⟩ N todo W B=some G∧Inv S R n m G∧Stable R (gf G):=by
 have hF':=hF;unfold FF at hF';intro v
 induction v with
 | zero =>
  intro N W todo B hv hN hV hM hs;obtain ⟨N,rfl⟩:∃N',N=N'+1:=⟨N-1,by omega⟩;have ht:todo=[]:=List.eq_nil_of_length_eq_zero (by omega);subst ht;refine ⟨W,?_,hM.inv,fun r q d h=>(hs r q d h).elim (fun h=>by cases h) id⟩
  show Dh F ⟨S0,B0⟩ (Cq F ⟨S0,B0⟩ N) [] W B=_;unfold Dh;rw [B9 (by simp)];rfl
 | succ v ih =>
  intro N W todo B hv hN hV hM hs;obtain ⟨N,rfl⟩:∃N',N=N'+1:=⟨N-1,by omega⟩;have s1:Cq F ⟨S0,B0⟩ (N+1) todo W B=Dh F ⟨S0,B0⟩ (Cq F ⟨S0,B0⟩ N) todo W B:=rfl;rw [s1]
  cases todo with
  | nil =>
   refine ⟨W,?_,hM.inv,fun r q d h=>(hs r q d h).elim (fun h=>by cases h) id⟩
   unfold Dh;rw [B9 (by simp)];rfl
  | cons x rest =>
   obtain ⟨p,rfl,hp1,hp2⟩:=hM.inr x (by simp);have hlen:=hW0.len (pl p);simp only [List.length_cons] at hv;have hcut:Wc (pl p::rest) 1 (((pl p::rest).length:Nat):Int)=some rest:=by
    unfold Wc;rw [if_pos ⟨by omega,by simp only [List.length_cons];omega,Int.le_refl _⟩]
    congr 1
    show (rest.drop 0).take ((((pl p::rest).length:Nat):Int).toNat-1)=rest;rw [List.drop_zero,Int.toNat_natCast,List.length_cons];exact List.take_of_length_le (by omega)
   have hget:An (pl p::rest) 0=some (pl p):=rfl;unfold Dh;rw [C9 (by simp),hget,sb,hcut,sb];have hti:TI (Kv B (pl p)) rest:=⟨A7i hM.ti.nd _,fun r hr=>by
    rw [A82 hM.ti.nd] at hr
    split at hr
    ·simp at hr
    ·rename_i hne
     rcases List.mem_cons.1 (hM.ti.inl r hr) with h|h
     ·exact absurd h hne
     ·exact h⟩
   obtain ⟨W',t',B',g1,g2,g3,g4⟩:=Z7 (S:=S) hF hR hW0 hc0 S0 p ⟨hp1,hp2⟩ (Cq F ⟨S0,B0⟩ N) (Bd B0 (pl p)).length F 0 W rest (Kv B (pl p)) (by omega) (by omega) ⟨hM.inv,hti,fun x hx=>hM.inr x (by simp [hx])⟩ (by omega) (fun r q d h=>by
    rcases hs r q d h with h1|h1
    ·rcases List.mem_cons.1 h1 with h1|h1
     ·have:=Mg h1;subst this;exact .inr (.inr ⟨rfl,by rw [List.drop_zero];exact (hW0.iff r q d).2 h⟩)
     ·exact .inl h1
    ·exact .inr (.inl h1))
   rw [show ((0:Nat):Int)=0 from rfl] at g1;rw [g1];exact ih N W' t' B' (by omega) (by omega) (by omega) g2 g3
theorem A22 (hF:FS≤F) (hS:Shape S n m) (hG:AllG S) (hn:n≤1000) (hm:m≤1000) (hj:0≤jp∧jp≤400000) (hb:br≤16) :
  ∃G,Jp F S jp br=some G∧Inv S (LL S br jp) n m G∧Stable (LL S br jp) (gf G):=by
 have hF2:FF≤F:=by unfold FS at hF;unfold FF;omega
 obtain ⟨B0,b1,b2⟩:=A50 hF2 hS hn hm hj hb;unfold Jp;rw [b1,sb];have hF':=hF2;unfold FF at hF';have hnm:n*m≤1000*1000:=Nat.mul_le_mul hn hm;obtain ⟨B1,t1,w1,w2,w3,w4,w5⟩:=A0n hF2 hS hn hm ⟨S,B0⟩ n F 0 [] [] (by omega) (by omega) ⟨.nil,fun r hr=>by simp [lkM] at hr⟩ (by simp;omega) (fun x hx=>by cases hx) (fun p hp=>by omega)
 rw [show ((0:Nat):Int)=0 from rfl] at w1;rw [w1];unfold G1;have hR:∀p q d,both (LL S br jp) p q d→0≤d∧d≤1000000000∧p.1<n∧p.2<m∧q.1<n∧q.2<m:=by
  rintro p q d (h|h)
  ·have h1:=Rw hS h;have h2:=A9c hS hj hb h;exact ⟨h2.1,h2.2,h1.1,h1.2.1,h1.2.2.1,h1.2.2.2.1⟩
  ·have h1:=Rw hS h;have h2:=A9c hS hj hb h;exact ⟨h2.1,h2.2,h1.2.2.1,h1.2.2.2.1,h1.1,h1.2.1⟩
 have hv:=A79 hS;have hh:n*(m*HN)≤1000*(1000*HN):=Nat.mul_le_mul hn (Nat.mul_le_mul hm (Nat.le_refl _));have hHN:=A6p;unfold FS at hF;simp only [List.length_nil] at w5;refine Xf hF2 hR b2 (by omega) S (t1.length+Vol S) F S t1 B1 (Nat.le_refl _) (by omega) (by omega) ⟨⟨hS,hG,Below.refl _,fun h _ hb=>hb⟩,w2,w3⟩ fun r q d h=>.inl ?_;have hne:∀p q d,LL S br jp p q d→ne (S.getD p.1 []) p.2=true∧ne (S.getD q.1 []) q.2=true:=by
  rintro p q d (⟨h1,h2,h3,h4⟩|⟨h1,h2,h3,k,h4,h5,h6⟩)
  ·exact ⟨h3.2.2.1,by rw [←h1];exact h3.2.2.2.1⟩
  ·exact ⟨h2,by rw [h5,←h3];exact h4.2.2.2.1⟩
 rcases h with h|h
 ·exact w4 r (Rw hS h).1 (hne _ _ _ h).1
 ·exact w4 r (Rw hS h).2.2.1 (hne _ _ _ h).2
end
end Go.Proofs.Ytbhjgebjojdohaa
namespace Go.Proofs.Ytbhjgebjojdohaa
open Go Go.RowKit Go.Eng
set_option maxRecDepth 10000
set_option linter.unusedVariables false
set_option linter.unusedSimpArgs false
theorem Zn {t:ref02_Train} {x:api_Echo} {m w:Int} (hL:30000≤t.Lambda) (hu:1≤us t w∧us t w≤2999) (hm:1≤m∧m≤60000) (hs:turnB (stepOf x w)=true):¬A2m t x m w:=by
 unfold turnB at hs;simp only [decide_eq_true_eq] at hs;have hD:0<65536*us t w:=by omega
 rintro (h|h)<;>unfold isw spw Gq spd at h<;>simp only [decide_eq_true_eq] at h
 ·have h3:60001≤-(500*t.Lambda*((stepOf x w).Hi + -64*65536))/(65536*us t w):=by
   apply Int.le_ediv_of_mul_le hD;have:500*t.Lambda*((stepOf x w).Hi + -64*65536)≤500*t.Lambda*(-4096002):=Int.mul_le_mul_of_nonneg_left (by omega) (by omega);omega
  split at h<;>split at h<;>omega
 ·have h3:60001≤500*t.Lambda*((stepOf x w).Lo+64*65536)/(65536*us t w):=by
   apply Int.le_ediv_of_mul_le hD;have:500*t.Lambda*4161536≤500*t.Lambda*((stepOf x w).Lo+64*65536):=Int.mul_le_mul_of_nonneg_left (by omega) (by omega);omega
  split at h<;>split at h<;>omega
theorem S4 (F:Nat) {x y:Int} (hx:-4000000000000000000≤x∧x≤4000000000000000000) (hy:0<y):J3 F x y=some (x/y):=A2t F hx hy
theorem Rg {x y:Int} (hx:0≤x) (hy:0<y):Hu x y=some (x%y):=by
 unfold Hu;rw [if_neg (by omega),Int.tmod_eq_emod_of_nonneg hx]
theorem A5e {a b:api_Span} (ha:turnB a=true) (hb:turnB b=true):echoE (A0 a b)=0:=by
 unfold echoE T5 A0 Ai;simp [ha,hb];exact ⟨rfl,rfl,rfl,rfl⟩
theorem Zh (a b:api_Span):a.Lo≤(Gq a b).Lo∧(Gq a b).Hi≤a.Hi∧b.Lo≤(Gq a b).Lo∧(Gq a b).Hi≤b.Hi:=by
 unfold Gq;simp only;refine ⟨?_,?_,?_,?_⟩<;>split<;>omega
end Go.Proofs.Ytbhjgebjojdohaa
namespace Go.Proofs.Ytbhjgebjojdohaa
open Go Go.RowKit Go.Eng
set_option maxRecDepth 10000
set_option linter.unusedVariables false
set_option linter.unusedSimpArgs false
def hit (t:ref02_Train) (w:Int) (s:api_Span) (v:Int):Prop:=∃k,-64≤k∧k≤64∧(spd t w s k).Lo≤v∧v≤(spd t w s k).Hi
theorem Xl (F:Nat) (t:ref02_Train) (w speed less more:Int) (hL:30000≤t.Lambda∧t.Lambda≤132000) (ht:1≤us t w∧us t w≤2999) (hv:-50000≤speed∧speed≤50000) (hl:0≤less∧less<30000) (hm:0≤more∧more<30000) :
  ∃s,J4 F (pt t) (us t w) speed less more=some s∧turnB s=true∧hit t w s speed:=by
 obtain ⟨time,htm⟩:∃T,us t w=T:=⟨_,rfl⟩;rw [htm] at ht ⊢;have b1:-3276800000*2999≤speed*65536*time∧speed*65536*time≤3276800000*2999:=by
  have h1:speed*65536*time≤3276800000*time:=Int.mul_le_mul_of_nonneg_right (by omega) (by omega);have h2:-3276800000*time≤speed*65536*time:=Int.mul_le_mul_of_nonneg_right (by omega) (by omega);omega
 have hd0:(pt t).Lambda=t.Lambda:=rfl;unfold J4 Ai;rw [hd0,ckb (by omega),ckb (by omega),ckb (by omega)];have hd:15000000≤500*t.Lambda:=by omega
 have hd2:500*t.Lambda≤66000000:=by omega
 unfold hit spd;rw [htm];obtain ⟨n,hn⟩:∃n,speed*65536*time=n:=⟨_,rfl⟩;obtain ⟨d,hdd⟩:∃d,500*t.Lambda=d:=⟨_,rfl⟩;rw [hn] at b1;rw [hdd] at hd hd2;rw [hn,hdd];have hdp:0<d:=by omega
 have e1:=Int.mul_ediv_add_emod n d;have e2:=Int.mul_ediv_add_emod (-n) d;have m1:=Int.emod_nonneg n (by omega:d≠0);have m2:=Int.emod_lt_of_pos n hdp;have m3:=Int.emod_nonneg (-n) (by omega:d≠0);have m4:=Int.emod_lt_of_pos (-n) hdp;have q1:n/d≤700000∧-700000≤n/d:=by
  constructor
  ·exact Int.le_of_lt_add_one (Int.ediv_lt_of_lt_mul hdp (by
     have:700001*15000000≤700001*d:=by omega
     omega))
  ·exact Int.le_ediv_of_mul_le hdp (by
     have:-700000*d≤-700000*15000000:=by omega
     omega)
 have q3:0≤-(-n/d)-n/d∧-(-n/d)-n/d≤1:=by
  have hs:d*(n/d + -n/d)=d*(n/d)+d*(-n/d):=Int.mul_add ..;generalize n/d=a at *;generalize -n/d=b at *;constructor
  ·by_cases hc:a+b≤0
   ·omega
   ·have:d*1≤d*(a+b):=Int.mul_le_mul_of_nonneg_left (by omega) (by omega);omega
  ·by_cases hc:-1≤a+b
   ·omega
   ·have:d*(a+b)≤d*(-2):=Int.mul_le_mul_of_nonneg_left (by omega) (by omega);omega
 have f1:d*(n/d)≤n:=by omega
 have f2:n≤d*(-(-n/d)):=by
  rw [Int.mul_neg];omega
 rw [S4 F (by omega) hdp,sb,ckb (by omega),Mb (by omega),S4 F (by omega) hdp,sb,Mb (by omega),ckb (by omega)];generalize n/d=a at *;generalize -n/d=b at *;simp only;rw [ckb (by omega),S4 F (by omega) (by omega),sb,ckb (by omega),ckb (by omega),ckb (by omega)];have hT:0<65536*time:=by omega
 have hnt:n=speed*(65536*time):=by rw [←hn,Int.mul_assoc]
 refine ⟨_,rfl,?_,(a-less+32768)/65536,by omega,by omega,?_,?_⟩
 ·unfold turnB;simp only [decide_eq_true_eq];omega
 ·simp only;rw [show a-less-(a-less+32768)/65536*65536+(a-less+32768)/65536*65536=a-less by omega];have h3:d*(a-less)≤d*a:=Int.mul_le_mul_of_nonneg_left (by omega) (by omega);have h4:=Int.ediv_le_ediv hT (show d*(a-less)≤n by omega);rw [hnt,Int.mul_ediv_cancel _ (by omega)] at h4;exact h4
 ·simp only;rw [show -b+more-(a-less+32768)/65536*65536+(a-less+32768)/65536*65536=-b+more by omega];have h3:d*(-b)≤d*(-b+more):=Int.mul_le_mul_of_nonneg_left (by omega) (by omega);have h4:=Int.ediv_le_ediv hT (show -(d*(-b+more))≤-n by omega);have h5:-n/(65536*time)=-speed:=by rw [hnt,show -(speed*(65536*time))=-speed*(65536*time) from (Int.neg_mul ..).symm,Int.mul_ediv_cancel _ (by omega)]
  rw [h5] at h4;omega
section
variable {t:ref02_Train} {x:api_Echo} {m w v:Int}
theorem A3j:∀(n:Nat) (a y:Int),a≤y→y<a+n→y∈kr n a
 | 0,a,y,h1,h2=>by omega
 | n+1,a,y,h1,h2=>by
  unfold kr
  by_cases h:y=a
  ·rw [h];exact List.mem_cons_self ..
  ·exact List.mem_cons_of_mem _ (A3j n (a+1) y (by omega) (by omega))
theorem A06 (h:hit t w (stepOf x w) v) (hv:-m≤v∧v≤m):∃o∈Kc t x m w,o.speed.Lo≤v∧v≤o.speed.Hi:=by
 obtain ⟨k,h1,h2,h3,h4⟩:=h;have hin:(spw t x m w k).Lo≤v∧v≤(spw t x m w k).Hi:=by
  unfold spw Gq;simp only;constructor<;>split<;>omega
 refine ⟨⟨k,spw t x m w k⟩,List.mem_filterMap.2 ⟨k,A3j 129 (-64) k (by omega) (by omega),?_⟩,hin⟩;unfold og isw;rw [if_pos (decide_eq_true (by omega))]
def gl (t:ref02_Train) (x:api_Echo) (m:Int):List fold_Guess:=if t.Kind=1 then (Kc t x m 0).map (fun f=>⟨(f.whole,0),f.speed⟩) else (Kc t x m 0).flatMap (fun u=>(Kc t x m 1).filterMap (gg u))
theorem Yd:(gl t x m).length≤129*129:=by
 unfold gl
 split
 ·have:=L5 (t:=t) (x:=x) (m:=m) (w:=0);rw [List.length_map];omega
 ·exact A4i
theorem A9o (F:Nat) (hF:2000≤F) (h:G8 t=0) (hs:∀w,inB (stepOf x w) (-131072) 131072=true) (hm:1≤m∧m≤200000) (h0:¬A2m t x m 0) (h2:t.Kind≠1→¬A2m t x m 1):Ga F (pt t) x m=some (gl t x m,true):=by
 have ho:=L5 (t:=t) (x:=x) (m:=m) (w:=0);have ho1:=L5 (t:=t) (x:=x) (m:=m) (w:=1);have e1:∀{β:Type} (a b:β),(bif !(true:Bool) then a else b)=b:=fun _ _=>rfl;unfold Ga gl;rw [M0,Zx F (by omega) ⟨h,.inl rfl⟩ hs hm,sb,if_neg (show ¬(isw t x m 0 (-64)=true∨isw t x m 0 64=true) from h0)];simp only [e1]
 by_cases h1:t.Kind=1
 ·rw [C9 (by simpa [pt] using h1),if_pos h1];have:=A4b (Kc t x m 0,true) (by simp;omega) (Kc t x m 0).length F 0 [] (by simp) (by omega) (by simp;omega);have h9:D1 (Kc t x m 0,true) F [] 0=_:=this;rw [h9];simp
 ·rw [B9 (by simpa [pt] using h1),if_neg h1];unfold Gx;rw [M0,Zx F (by omega) ⟨h,.inr ⟨rfl,h1⟩⟩ hs hm,sb,if_neg (show ¬(isw t x m 1 (-64)=true∨isw t x m 1 64=true) from h2 h1)];have:=A4w F hF (Kc t x m 0,true) (Kc t x m 1,true) (by simp;omega) (by simp;omega) (Kc t x m 0).length F 0 [] (by simp) (by omega) (by simp;omega);have h9:C6 F (Kc t x m 0,true) (Kc t x m 1,true) F [] 0=_:=this;rw [h9];simp
theorem A3b (h0:hit t 0 (stepOf x 0) v) (h1:t.Kind≠1→hit t 1 (stepOf x 1) v) (hv:-m≤v∧v≤m):∃g∈gl t x m,g.Speed.Lo≤v∧v≤g.Speed.Hi:=by
 obtain ⟨o,o1,o2⟩:=A06 h0 hv;unfold gl
 by_cases hk:t.Kind=1
 ·rw [if_pos hk];exact ⟨_,List.mem_map_of_mem o1,o2⟩
 ·rw [if_neg hk];obtain ⟨p,p1,p2⟩:=A06 (h1 hk) hv;have hin:(Gq o.speed p.speed).Lo≤v∧v≤(Gq o.speed p.speed).Hi:=by
   unfold Gq;simp only;constructor<;>split<;>omega
  refine ⟨⟨(o.whole,p.whole),Gq o.speed p.speed⟩,List.mem_flatMap.2 ⟨o,o1,List.mem_filterMap.2 ⟨p,p1,?_⟩⟩,hin⟩;unfold gg Jq;rw [if_pos (decide_eq_true (by omega))]
theorem Wn {g:fold_Guess} (h:g∈gl t x m):g.Speed.Lo≤g.Speed.Hi∧-m≤g.Speed.Lo∧g.Speed.Hi≤m:=by
 have hop:∀{w} {o:fold_option},o∈Kc t x m w→o.speed.Lo≤o.speed.Hi∧-m≤o.speed.Lo∧o.speed.Hi≤m:=by
  intro w o ho;obtain ⟨k,_,hk⟩:=List.mem_filterMap.1 ho;unfold og at hk
  split at hk
  ·rename_i hw
   cases hk
   unfold isw at hw;have:=of_decide_eq_true hw;have hc:=Zh (spd t w (stepOf x w) k) ⟨-m,m⟩;unfold spw at this ⊢;simp only at hc ⊢;omega
  ·cases hk
 unfold gl at h
 split at h
 ·obtain ⟨o,ho,rfl⟩:=List.mem_map.1 h;exact hop ho
 ·obtain ⟨o,ho,h⟩:=List.mem_flatMap.1 h;obtain ⟨p,hp,h⟩:=List.mem_filterMap.1 h;unfold gg Jq at h
  split at h
  ·rename_i hw
   cases h
   have:=of_decide_eq_true hw;have h1:=hop ho;have h2:=hop hp;have hc:=Zh o.speed p.speed;simp only;omega
  ·cases h
end
end Go.Proofs.Ytbhjgebjojdohaa
namespace Go.Proofs.Ytbhjgebjojdohaa
open Go Go.RowKit Go.Eng
set_option maxRecDepth 10000
set_option linter.unusedVariables false
set_option linter.unusedSimpArgs false
section
variable {α β γ:Type}
theorem K8 {A B:List α} {y:α} {k:Nat} (h:A.length=k) (f:α→Option β):(An (A++y::B) (k:Int)).bind f=f y:=by
 subst h;unfold An;rw [if_pos (by omega),Int.toNat_natCast,List.getElem?_append_right (Nat.le_refl _),Nat.sub_self];rfl
theorem Kh {A B:List α} {y z:α} {k:Nat} (h:A.length=k) (f:List α→Option β):(Ge (A++y::B) (k:Int) z).bind f=f (A++z::B):=by
 subst h;unfold Ge;rw [if_pos (by simp;omega),Int.toNat_natCast,List.set_append_right _ _ (Nat.le_refl _),Nat.sub_self];rfl
theorem mkb {B:Nat} {n:Nat} {x:α} {f:List α→Option β} (h:B*n≤281474976710656) (h2:n≤1000000):(mkI B ((n:Nat):Int) x).bind f=f (List.replicate n x):=by
 unfold mkI;rw [if_pos ⟨by omega,by rw [Int.toNat_natCast];exact h,by omega⟩,Int.toNat_natCast];rfl
def PA (n m:Nat) (f:Nat→Nat→α) (a:Nat):List (List α):=(List.range a).map (fun b=>(List.range m).map (f b))++List.replicate (n-a) []
def PB (n m:Nat) (d:α) (f:Nat→Nat→α) (a i:Nat):List (List α):=(List.range a).map (fun b=>(List.range m).map (f b))++((List.range i).map (f a)++List.replicate (m-i) d)::List.replicate (n-(a+1)) []
def PC (n m:Nat) (f:Nat→Nat→α) (a i:Nat):List (List α):=(List.range a).map (fun b=>(List.range m).map (f b))++((List.range i).map (f a))::List.replicate (n-(a+1)) []
theorem Uy (n m:Nat) (f:Nat→Nat→α):PA n m f 0=List.replicate n []:=by simp [PA]
theorem A2e {n m a:Nat} (ha:a<n) (f:Nat→Nat→α):PA n m f a=(List.range a).map (fun b=>(List.range m).map (f b))++[]::List.replicate (n-(a+1)) []:=by
 unfold PA;rw [show n-a=(n-(a+1))+1 by omega,List.replicate_succ]
theorem A2f {n m a:Nat} (ha:a<n) (d:α) (f:Nat→Nat→α):PB n m d f a m=PA n m f (a+1):=by
 unfold PA PB;rw [Nat.sub_self,List.range_succ,List.map_append];simp
theorem A53 {n m a:Nat} (ha:a<n) (f:Nat→Nat→α):PA n m f a=PC n m f a 0:=A2e ha f
theorem A75 {n m a:Nat} (ha:a<n) (f:Nat→Nat→α):PC n m f a m=PA n m f (a+1):=by
 unfold PA PC;rw [List.range_succ,List.map_append];simp
theorem A0b {m i:Nat} (hi:i<m) (d:α) (f:Nat→α):(List.range i).map f++List.replicate (m-i) d=(List.range i).map f++d::List.replicate (m-(i+1)) d:=by
 rw [show m-i=(m-(i+1))+1 by omega,List.replicate_succ]
theorem X8 (m i:Nat) (d:α) (f:Nat→α):(List.range i).map f++f i::List.replicate (m-(i+1)) d=(List.range (i+1)).map f++List.replicate (m-(i+1)) d:=by
 rw [List.range_succ,List.map_append,List.append_assoc];rfl
theorem Xs (n m:Nat) (f:Nat→Nat→α):PA n m f n=(List.range n).map (fun b=>(List.range m).map (f b)):=by simp [PA]
theorem A6x {n m a:Nat} (ha:a<n) (f:Nat→Nat→α) (k:List α→Option β):(An ((List.range n).map (fun b=>(List.range m).map (f b))) (a:Int)).bind k=k ((List.range m).map (f a)):=by
 unfold An;rw [if_pos (by omega),Int.toNat_natCast,List.getElem?_map,List.getElem?_range ha];rfl
theorem A6w {m i:Nat} (hi:i<m) (f:Nat→α) (k:α→Option β):(An ((List.range m).map f) (i:Int)).bind k=k (f i):=by
 unfold An;rw [if_pos (by omega),Int.toNat_natCast,List.getElem?_map,List.getElem?_range hi];rfl
end
def Ug (set:List api_Span) (g:fold_Guess):Option fold_Guess :=
 if 0<(mt set [g.Speed]).length then some ⟨(g.Whole.1,g.Whole.2),⟨((mt set [g.Speed]).getD 0 default).Lo,((mt set [g.Speed]).getD ((mt set [g.Speed]).length-1) default).Hi⟩⟩ else none
def mkF (r:List fold_Guess):fold_Found:=⟨if r.length=0 then 4 else if r.length=1 then 2 else 3,r⟩
def A3l (l:List fold_Guess) (set:List api_Span):fold_Found:=mkF (l.filterMap (Ug set))
theorem A3m (r:List fold_Guess) (h:r.length≤1000000000):Ho r=some (mkF r):=by
 unfold Ho mkF
 match r,h with
 | [],_=>rfl
 | [a],_=>rfl
 | a::b::c,h =>
  have e:(if (((a::b::c).length:Nat):Int)<2 then (((a::b::c).length:Nat):Int) else 2)=((2:Nat):Int):=by
   rw [if_neg (by simp;omega)];rfl
  rw [e,if_neg (by simp),if_neg (by simp)];rfl
theorem A1c {F:Nat} (hF:FF≤F) {set:List api_Span} (hs:Good set) {l:List fold_Guess} (hl:l.length≤1000000) (hv:∀g∈l,g.Speed.Lo≤g.Speed.Hi):∀(n N i:Nat) (acc:List fold_Guess),i+n=l.length→n<N→acc.length+n≤1000000 →
  F8 F l set N (i:Int) acc=some (mkF (acc++(l.drop i).filterMap (Ug set))):=by
 intro n
 induction n with
 | zero =>
  intro N i acc hi hN ha;obtain ⟨N,rfl⟩:∃N',N=N'+1:=⟨N-1,by omega⟩;show F7 F l set (F8 F l set N) (i:Int) acc=_;unfold F7;rw [B9 (by simp;omega),List.drop_eq_nil_of_le (by omega),A3m _ (by omega)];simp
 | succ n ih =>
  intro N i acc hi hN ha;obtain ⟨N,rfl⟩:∃N',N=N'+1:=⟨N-1,by omega⟩;show F7 F l set (F8 F l set N) (i:Int) acc=_;unfold F7;have hm:l.getD i default∈l:=by rw [List.getD_eq_getElem?_getD,List.getElem?_eq_getElem (by omega:i<l.length)];exact List.getElem_mem _
  rw [C9 (by simp;omega),El default (by omega),Int.toNat_natCast,Dm (i:=i) (by omega) default];obtain ⟨g,hg⟩:∃g,l.getD i default=g:=⟨_,rfl⟩;rw [hg] at hm ⊢;have hgv:=hv g hm;have hlen:=hs.len;rw [A00 hF (by omega) (by simp) hs.1 ⟨List.pairwise_singleton _ _,by intro s h;simp at h;subst h;exact hgv⟩ hs.big,sb,List.filterMap_cons];have hmt:(mt set [g.Speed]).length≤400001:=(Good.mt (a:=set) (b:=[g.Speed]) hs).len;unfold Ug
  by_cases h0:0<(mt set [g.Speed]).length
  ·rw [C9 (by simpa using h0),El default (by omega),ckb (by omega),El default (by omega),if_pos h0,Kr (by simp;omega)];unfold Gb;rw [ckb (by omega)];have:=ih N (i+1) (acc++[⟨(g.Whole.1,g.Whole.2),⟨((mt set [g.Speed]).getD 0 default).Lo,((mt set [g.Speed]).getD ((mt set [g.Speed]).length-1) default).Hi⟩⟩]) (by omega) (by omega) (by simp;omega);rw [Int.natCast_add] at this;have e:((((mt set [g.Speed]).length:Nat):Int)-1).toNat=(mt set [g.Speed]).length-1:=by omega
   rw [e];refine Eq.trans this ?_;rw [List.append_assoc];rfl
  ·rw [B9 (by simpa using h0),if_neg h0];unfold Gb;rw [ckb (by omega)];have:=ih N (i+1) acc (by omega) (by omega) (by omega);rw [Int.natCast_add] at this;exact this
theorem A5p {F:Nat} (hF:FF≤F) {set:List api_Span} (hs:Good set) {l:List fold_Guess} (hl:l.length≤1000000) (hv:∀g∈l,g.Speed.Lo≤g.Speed.Hi):Mw F l set=some (A3l l set):=by
 have h1:=hF;unfold FF at h1;exact A1c hF hs hl hv l.length F 0 [] (by omega) (by omega) (by simp;omega)
section
variable {F:Nat} {t:ref02_Train} {s:api_Sweep} {mst jp br:Int} {n m:Nat}
def gX (s:api_Sweep) (a i:Nat):api_Echo:=(s.Rays.getD a []).getD i default
def sX (t:ref02_Train) (s:api_Sweep) (mst:Int) (a i:Nat):List api_Span:=if (gX s a i).Kind=3 then un ((gl t (gX s a i) mst).map (·.Speed)) else []
def aX (t:ref02_Train) (s:api_Sweep) (mst:Int) (a i:Nat):List fold_Guess:=if (gX s a i).Kind=3 then gl t (gX s a i) mst else []
def SX (t:ref02_Train) (s:api_Sweep) (mst:Int) (n m:Nat):Rays:=(List.range n).map fun a=>(List.range m).map (sX t s mst a)
def Zb (F:Nat) (t:ref02_Train) (s:api_Sweep) (mst:Int):Prop:=∀a i,(gX s a i).Kind=3→Ga F (pt t) (gX s a i) mst=some (gl t (gX s a i) mst,true)
theorem Ur {x:api_Echo} (hm:1≤mst∧mst≤200000):Good (un ((gl t x mst).map (·.Speed)))∧valid ((gl t x mst).map (·.Speed))∧Jd 200000 ((gl t x mst).map (·.Speed)):=by
 have hv:valid ((gl t x mst).map (·.Speed)):=by
  intro p hp;obtain ⟨g,hg,rfl⟩:=List.mem_map.1 hp;exact (Wn hg).1
 have hw:Jd 200000 ((gl t x mst).map (·.Speed)):=by
  intro p hp;obtain ⟨g,hg,rfl⟩:=List.mem_map.1 hp;have:=Wn hg;omega
 exact ⟨⟨Lb hv,Jk (Lb hv).2 fun z hz=>Kb hw ((Qr hv z).1 hz)⟩,hv,hw⟩
theorem A6c (hm:1≤mst∧mst≤200000) (a i:Nat):Good (sX t s mst a i):=by
 unfold sX
 split
 ·exact (Ur hm).1
 ·exact Wo
theorem Xg (x17831:Int) (S:List (List (List api_Span))) (x19851:Int) (k9:List (List (List api_Span))→List (List (List fold_Guess))→Int→Option (List (List fold_Found)×Int)) (y:List fold_Guess×Bool) (hy:y.1.length≤1000000) (A:List (List (List fold_Guess))) :
  ∀(q N i:Nat) (acc:List api_Span),i+q=y.1.length→q<N→acc.length+q≤1000000→Dr F x17831 S x19851 k9 y A N (i:Int) acc=Fe F x17831 S x19851 k9 A (acc++(y.1.drop i).map (·.Speed)):=by
 intro q
 induction q with
 | zero =>
  intro N i acc hi hN ha;obtain ⟨N,rfl⟩:∃N',N=N'+1:=⟨N-1,by omega⟩;show Dq F x17831 S x19851 k9 y A (Dr F x17831 S x19851 k9 y A N) (i:Int) acc=_;unfold Dq;rw [B9 (by simp;omega),List.drop_eq_nil_of_le (by omega)];simp
 | succ q ih =>
  intro N i acc hi hN ha;obtain ⟨N,rfl⟩:∃N',N=N'+1:=⟨N-1,by omega⟩;show Dq F x17831 S x19851 k9 y A (Dr F x17831 S x19851 k9 y A N) (i:Int) acc=_;unfold Dq;rw [C9 (by simp;omega),El default (by omega),Int.toNat_natCast,Kr (by simp;omega),ckb (by omega)];have:=ih N (i+1) (acc++[(y.1.getD i default).Speed]) (by omega) (by omega) (by simp;omega);rw [Int.natCast_add] at this;refine Eq.trans this ?_;rw [Dm (i:=i) (by omega) default];simp
theorem Ya (hF:FF≤F) (hg:Zb F t s mst) (hm:1≤mst∧mst≤200000) {a:Nat} (ha:a<n) (hn:n≤1000) (hmm:m≤1000) (hr:(s.Rays.getD a []).length=m)
  (k7:List (List (List api_Span))→List (List (List fold_Guess))→Int→Option (List (List fold_Found)×Int)):∀(q N i:Nat),i+q=m→q<N →
  Dg F (pt t) mst (a:Int) k7 (s.Rays.getD a []) N (PB n m [] (sX t s mst) a i) (PB n m [] (aX t s mst) a i) (i:Int)=k7 (PA n m (sX t s mst) (a+1)) (PA n m (aX t s mst) (a+1)) ((a+1:Nat):Int):=by
 have hF1:=hF;unfold FF at hF1;intro q
 induction q with
 | zero =>
  intro N i hi hN;obtain ⟨N,rfl⟩:∃N',N=N'+1:=⟨N-1,by omega⟩;obtain rfl:i=m:=by omega
  show Ee F (pt t) mst (a:Int) k7 (s.Rays.getD a []) (Dg F (pt t) mst (a:Int) k7 (s.Rays.getD a []) N) _ _ (i:Int)=_;unfold Ee Hm;rw [B9 (decide_eq_false (by omega)),ckb (by omega),A2f ha,A2f ha];rfl
 | succ q ih =>
  intro N i hi hN;obtain ⟨N,rfl⟩:∃N',N=N'+1:=⟨N-1,by omega⟩;show Ee F (pt t) mst (a:Int) k7 (s.Rays.getD a []) (Dg F (pt t) mst (a:Int) k7 (s.Rays.getD a []) N) _ _ (i:Int)=_;unfold Ee;have hx:(s.Rays.getD a []).getD i default=gX s a i:=rfl;have ihh:=ih N (i+1) (by omega) (by omega);rw [Int.natCast_add] at ihh;have hla:((List.range a).map (fun b=>(List.range m).map (sX t s mst b))).length=a:=by simp
  have hla2:((List.range a).map (fun b=>(List.range m).map (aX t s mst b))).length=a:=by simp
  have hli:((List.range i).map (sX t s mst a)).length=i:=by simp
  have hli2:((List.range i).map (aX t s mst a)).length=i:=by simp
  rw [C9 (decide_eq_true (by omega)),El default (by omega),Int.toNat_natCast,hx];have e1:PB n m [] (sX t s mst) a (i+1)=(List.range a).map (fun b=>(List.range m).map (sX t s mst b))++((List.range i).map (sX t s mst a)++sX t s mst a i::List.replicate (m-(i+1)) [])::List.replicate (n-(a+1)) []:=by
   unfold PB;rw [X8]
  have e2:PB n m [] (aX t s mst) a (i+1)=(List.range a).map (fun b=>(List.range m).map (aX t s mst b))++((List.range i).map (aX t s mst a)++aX t s mst a i::List.replicate (m-(i+1)) [])::List.replicate (n-(a+1)) []:=by
   unfold PB;rw [X8]
  have f1:PB n m [] (sX t s mst) a i=(List.range a).map (fun b=>(List.range m).map (sX t s mst b))++((List.range i).map (sX t s mst a)++[]::List.replicate (m-(i+1)) [])::List.replicate (n-(a+1)) []:=by
   unfold PB;rw [A0b (by omega)]
  have f2:PB n m [] (aX t s mst) a i=(List.range a).map (fun b=>(List.range m).map (aX t s mst b))++((List.range i).map (aX t s mst a)++[]::List.replicate (m-(i+1)) [])::List.replicate (n-(a+1)) []:=by
   unfold PB;rw [A0b (by omega)]
  by_cases h3:(gX s a i).Kind=3
  ·rw [B9 (by simpa using h3),M0,hg a i h3,sb,B9 (by rfl),f2,K8 hla2,K8 hli2,Kh hli2,Kh hla2];have hlen:=Yd (t:=t) (x:=gX s a i) (m:=mst);have h4:=Xg (F:=F) (a:Int) (PB n m [] (sX t s mst) a i) (i:Int) (Dg F (pt t) mst (a:Int) k7 (s.Rays.getD a []) N) (gl t (gX s a i) mst,true) (by simp only;omega)
    ((List.range a).map (fun b=>(List.range m).map (aX t s mst b))++((List.range i).map (aX t s mst a)++gl t (gX s a i) mst::List.replicate (m-(i+1)) [])::List.replicate (n-(a+1)) []) (gl t (gX s a i) mst).length F 0 [] (by simp) (by omega) (by simp;omega)
   refine Eq.trans h4 ?_;obtain ⟨g1,g2,g3⟩:=Ur (t:=t) (x:=gX s a i) hm;unfold Fe Em;rw [f1,K8 hla,List.drop_zero,List.nil_append,Qs hF g2 (fun p hp=>by have:=g3 p hp;have:=g2 p hp;unfold spB;omega) (by rw [List.length_map];omega),sb,K8 hli,Kh hli,Kh hla,ckb (by omega)];have s1:sX t s mst a i=un ((gl t (gX s a i) mst).map (·.Speed)):=by unfold sX;rw [if_pos h3]
   have s2:aX t s mst a i=gl t (gX s a i) mst:=by unfold aX;rw [if_pos h3]
   rw [e1,e2,s1,s2] at ihh;exact ihh
  ·rw [C9 (by simpa using h3)];unfold Em;rw [ckb (by omega)];have s1:sX t s mst a i=[]:=by unfold sX;rw [if_neg h3]
   have s2:aX t s mst a i=[]:=by unfold aX;rw [if_neg h3]
   rw [e1,e2,s1,s2,←f1,←f2] at ihh;exact ihh
theorem A1z (hF:FF≤F) (hg:Zb F t s mst) (hm:1≤mst∧mst≤200000) (hl:s.Rays.length=n) (hn:n≤1000) (hmm:m≤1000) (hr:∀a<n,(s.Rays.getD a []).length=m):∀(q N a:Nat),a+q=n→q<N →
  Df F (pt t) s mst jp br N (PA n m (sX t s mst) a) (PA n m (aX t s mst) a) (a:Int)=Fz F s jp br (SX t s mst n m) ((List.range n).map fun a=>(List.range m).map (aX t s mst a)):=by
 have hF1:=hF;unfold FF at hF1;intro q
 induction q with
 | zero =>
  intro N a hi hN;obtain ⟨N,rfl⟩:∃N',N=N'+1:=⟨N-1,by omega⟩;obtain rfl:a=n:=by omega
  show Ed F (pt t) s mst jp br (Df F (pt t) s mst jp br N) _ _ (a:Int)=_;unfold Ed;rw [B9 (by simp;omega),Xs,Xs];rfl
 | succ q ih =>
  intro N a hi hN;obtain ⟨N,rfl⟩:∃N',N=N'+1:=⟨N-1,by omega⟩;show Ed F (pt t) s mst jp br (Df F (pt t) s mst jp br N) _ _ (a:Int)=_;unfold Ed;have hra:=hr a (by omega);have hla:((List.range a).map (fun b=>(List.range m).map (sX t s mst b))).length=a:=by simp
  have hla2:((List.range a).map (fun b=>(List.range m).map (aX t s mst b))).length=a:=by simp
  rw [C9 (by simp;omega),El [] (by omega),Int.toNat_natCast,hra,mkb (by omega) (by omega),A2e (by omega:a<n),K8 hla,mkb (by omega) (by omega),Kh hla,A2e (by omega:a<n),K8 hla2,Kh hla2];have h1:=Ya hF hg hm (by omega:a<n) hn hmm hra (Df F (pt t) s mst jp br N) m F 0 (by omega) (by omega);have e1:PB n m [] (sX t s mst) a 0=(List.range a).map (fun b=>(List.range m).map (sX t s mst b))++List.replicate m []::List.replicate (n-(a+1)) []:=by simp [PB]
  have e2:PB n m [] (aX t s mst) a 0=(List.range a).map (fun b=>(List.range m).map (aX t s mst b))++List.replicate m []::List.replicate (n-(a+1)) []:=by simp [PB]
  rw [e1,e2] at h1;refine Eq.trans h1 ?_;exact ih N (a+1) (by omega) (by omega)
end
end Go.Proofs.Ytbhjgebjojdohaa
namespace Go.Proofs.Ytbhjgebjojdohaa
open Go Go.RowKit Go.Eng
set_option maxRecDepth 10000
set_option linter.unusedVariables false
set_option linter.unusedSimpArgs false
section
variable {F:Nat} {t:ref02_Train} {s:api_Sweep} {mst jp br:Int} {n m:Nat} {G:Rays}
def oX (t:ref02_Train) (s:api_Sweep) (mst:Int) (G:Rays) (a i:Nat):fold_Found:=if (gX s a i).Kind=3 then A3l (gl t (gX s a i) mst) (gf G (a,i)) else ⟨1,[]⟩
def AX (t:ref02_Train) (s:api_Sweep) (mst:Int) (n m:Nat):List (List (List fold_Guess)):=(List.range n).map fun a=>(List.range m).map (aX t s mst a)
theorem A2g {α β:Type} {n m a i:Nat} (f:Nat→Nat→α) (k:List α→Option β):(An (PC n m f a i) (a:Int)).bind k=k ((List.range i).map (f a)):=by
 unfold PC;exact K8 (by simp) k
theorem A76 {α β:Type} {n m a i:Nat} (f:Nat→Nat→α) (k:List (List α)→Option β):(Ge (PC n m f a i) (a:Int) ((List.range i).map (f a)++[f a i])).bind k=k (PC n m f a (i+1)):=by
 unfold PC;rw [Kh (by simp),List.range_succ,List.map_append];rfl
theorem A1u (hF:FF≤F) (hm:1≤mst∧mst≤200000) (hG:AllG G) (hS:Shape G n m) {a:Nat} (ha:a<n) (hn:n≤1000) (hmm:m≤1000) (hr:(s.Rays.getD a []).length=m)
  (k3:Int→List (List fold_Found)→Option (List (List fold_Found)×Int)):∀(q N i:Nat),i+q=m→q<N →
  De F (AX t s mst n m) G (a:Int) k3 (s.Rays.getD a []) N (i:Int) (PC n m (oX t s mst G) a i)=k3 ((a+1:Nat):Int) (PA n m (oX t s mst G) (a+1)):=by
 intro q
 induction q with
 | zero =>
  intro N i hi hN;obtain ⟨N,rfl⟩:∃N',N=N'+1:=⟨N-1,by omega⟩;obtain rfl:i=m:=by omega
  show Ec F (AX t s mst n i) G (a:Int) k3 (s.Rays.getD a []) (De F (AX t s mst n i) G (a:Int) k3 (s.Rays.getD a []) N) (i:Int) _=_;unfold Ec Hl;rw [B9 (decide_eq_false (by omega)),ckb (by omega),A75 ha];rfl
 | succ q ih =>
  intro N i hi hN;obtain ⟨N,rfl⟩:∃N',N=N'+1:=⟨N-1,by omega⟩;show Ec F (AX t s mst n m) G (a:Int) k3 (s.Rays.getD a []) (De F (AX t s mst n m) G (a:Int) k3 (s.Rays.getD a []) N) (i:Int) _=_;unfold Ec;have hx:(s.Rays.getD a []).getD i default=gX s a i:=rfl;have ihh:=ih N (i+1) (by omega) (by omega);rw [Int.natCast_add] at ihh;have hK:∀(o:fold_Found),o=oX t s mst G a i→F2 (a:Int) (i:Int) (PC n m (oX t s mst G) a i) (De F (AX t s mst n m) G (a:Int) k3 (s.Rays.getD a []) N) o.State o.Guesses=k3 ((a+1:Nat):Int) (PA n m (oX t s mst G) (a+1)):=by
   rintro o rfl;unfold F2;rw [A2g,Kr (by simp;omega),A2g];refine Eq.trans (A76 (oX t s mst G) _) ?_;rw [ckb (by omega)];exact ihh
  rw [C9 (decide_eq_true (by omega)),El default (by omega),Int.toNat_natCast,hx]
  by_cases h3:(gX s a i).Kind=3
  ·have hrow:=hS.row ha;have hlen:=Yd (t:=t) (x:=gX s a i) (m:=mst);rw [C9 (by simpa using h3),AX,A6x ha,A6w (by omega:i<m),El [] (by rw [hS.1];omega),Int.toNat_natCast,El [] (by rw [hrow];omega),Int.toNat_natCast];have e1:aX t s mst a i=gl t (gX s a i) mst:=by unfold aX;rw [if_pos h3]
   have e2:(G.getD a []).getD i []=gf G (a,i):=rfl;rw [e1,e2,A5p hF (hG.good (a,i)) (by omega) (fun g hg=>(Wn hg).1),sb];exact hK _ (by unfold oX;rw [if_pos h3])
  ·rw [B9 (by simpa using h3)];exact hK ⟨1,[]⟩ (by unfold oX;rw [if_neg h3])
theorem A4f (hF:FF≤F) (hm:1≤mst∧mst≤200000) (hG:AllG G) (hS:Shape G n m) (hl:s.Rays.length=n) (hn:n≤1000) (hmm:m≤1000) (hr:∀a<n,(s.Rays.getD a []).length=m):∀(q N a:Nat),a+q=n→q<N →
  Dd F s (AX t s mst n m) G N (a:Int) (PA n m (oX t s mst G) a)=some ((List.range n).map fun a=>(List.range m).map (oX t s mst G a),0):=by
 have hF1:=hF;unfold FF at hF1;intro q
 induction q with
 | zero =>
  intro N a hi hN;obtain ⟨N,rfl⟩:∃N',N=N'+1:=⟨N-1,by omega⟩;obtain rfl:a=n:=by omega
  show Eb F s (AX t s mst a m) G (Dd F s (AX t s mst a m) G N) (a:Int) _=_;unfold Eb Hk;rw [B9 (decide_eq_false (by omega)),Xs]
 | succ q ih =>
  intro N a hi hN;obtain ⟨N,rfl⟩:∃N',N=N'+1:=⟨N-1,by omega⟩;show Eb F s (AX t s mst n m) G (Dd F s (AX t s mst n m) G N) (a:Int) _=_;unfold Eb;rw [C9 (decide_eq_true (by omega)),El [] (by omega),Int.toNat_natCast,A53 (by omega:a<n)];exact Eq.trans (A1u hF hm hG hS (by omega:a<n) hn hmm (hr a (by omega)) (Dd F s (AX t s mst n m) G N) m F 0 (by omega) (by omega)) (ih N (a+1) (by omega) (by omega))
theorem Vw:Shape (SX t s mst n m) n m:=by
 refine ⟨by simp [SX],fun r hr=>?_⟩;obtain ⟨a,_,rfl⟩:=List.mem_map.1 hr;simp
theorem A54 (hm:1≤mst∧mst≤200000):AllG (SX t s mst n m):=by
 intro r hr x hx;obtain ⟨a,_,rfl⟩:=List.mem_map.1 hr;obtain ⟨i,_,rfl⟩:=List.mem_map.1 hx;exact A6c hm a i
theorem A6q {p:Pl} (h1:p.1<n) (h2:p.2<m):gf (SX t s mst n m) p=sX t s mst p.1 p.2:=by
 have e1:(SX t s mst n m).getD p.1 []=(List.range m).map (sX t s mst p.1):=by
  unfold SX;rw [List.getD_eq_getElem?_getD,List.getElem?_map,List.getElem?_range h1];rfl
 unfold gf gt;rw [e1,List.getD_eq_getElem?_getD,List.getElem?_map,List.getElem?_range h2];rfl
theorem A2b (hF:FS≤F) (ht:G8 t=0) (hc:D7 F s=some 0) (hm:1≤mst∧mst≤200000) (hj:0≤jp∧jp≤400000) (hb:1≤br∧br≤16) (hg:Zb F t s mst) (hl:s.Rays.length=n) (hn:n≤1000) (hmm:m≤1000) (hr:∀a<n,(s.Rays.getD a []).length=m) :
  ∃G,Jo F (pt t) s mst jp br=some ((List.range n).map (fun a=>(List.range m).map (oX t s mst G a)),0)∧Inv (SX t s mst n m) (LL (SX t s mst n m) br jp) n m G∧Stable (LL (SX t s mst n m) br jp) (gf G):=by
 have hF2:FF≤F:=by unfold FS at hF;unfold FF;omega
 have hF1:=hF2;unfold FF at hF1;obtain ⟨G,g1,g2,g3⟩:=A22 (S:=SX t s mst n m) hF Vw (A54 hm) hn hmm hj hb.2;refine ⟨G,?_,g2,g3⟩;have c0:((0:Int) != 0)=false:=rfl;have hbm:J0 mst=true:=by unfold J0;simp [hm]
 have hlim:E4 jp br=0:=by
  unfold E4;rw [B9];simp [cond_eq_ite];omega
 have e1:∀{β:Type} (a b:β),(bif !(true:Bool) then a else b)=b:=fun _ _=>rfl;unfold Jo;rw [R4,sb,ht,c0,B9 rfl,hc,sb,c0,B9 rfl,hbm,e1,hlim,c0,B9 rfl,hl,mkb (by omega) (by omega),mkb (by omega) (by omega)];have h1:=A1z (jp:=jp) (br:=br) hF2 hg hm hl hn hmm hr n F 0 (by omega) (by omega);rw [Uy,Uy] at h1;refine Eq.trans h1 ?_;unfold Fz;rw [g1,sb,hl,mkb (by omega) (by omega)];have h2:=A4f (t:=t) (mst:=mst) hF2 hm g2.good g2.shape hl hn hmm hr n F 0 (by omega) (by omega);rw [Uy] at h2;exact h2
theorem A3n {set:List api_Span} (hs:Good set) {l:List fold_Guess} (hv:∀g∈l,g.Speed.Lo≤g.Speed.Hi) {g:fold_Guess} (hg:g∈l) {v:Int} (h1:g.Speed.Lo≤v∧v≤g.Speed.Hi) (h2:mem (2*v) set):∃q∈l.filterMap (Ug set),q.Speed.Lo≤v∧v≤q.Speed.Hi:=by
 have hmem:mem (2*v) (mt set [g.Speed]):=(Vg _ _ _).2 ⟨h2,g.Speed,by simp,by unfold inS;omega⟩;have hcan:=Ma set [g.Speed];obtain ⟨p,hp,hin⟩:=hmem;have hpos:0<(mt set [g.Speed]).length:=List.length_pos_of_mem hp;generalize hM:mt set [g.Speed]=M at *;refine ⟨⟨(g.Whole.1,g.Whole.2),⟨(M.getD 0 default).Lo,(M.getD (M.length-1) default).Hi⟩⟩,List.mem_filterMap.2 ⟨g,hg,?_⟩,?_,?_⟩
 ·unfold Ug;rw [hM,if_pos hpos]
 all_goals
  unfold inS at hin;obtain ⟨j,hj,hjp⟩:=List.mem_iff_getElem.1 hp;have hpw:=List.pairwise_iff_getElem.1 hcan.1;simp only;rw [List.getD_eq_getElem?_getD,List.getElem?_eq_getElem (by omega)];simp only [Option.getD_some]
 ·by_cases h0:j=0
  ·subst h0;rw [hjp];omega
  ·have:=hpw 0 j (by omega) hj (by omega);have hv0:=hcan.2 _ (List.getElem_mem (show 0<M.length by omega));rw [hjp] at this;omega
 ·by_cases h0:j=M.length-1
  ·subst h0;rw [hjp];omega
  ·have:=hpw j (M.length-1) hj (by omega) (by omega);have hv0:=hcan.2 _ (List.getElem_mem (show M.length-1<M.length by omega));rw [hjp] at this;omega
end
end Go.Proofs.Ytbhjgebjojdohaa
namespace Go.Proofs.Ytbhjgebjojdohaa
open Go Go.RowKit Go.Eng
set_option maxRecDepth 10000
set_option linter.unusedVariables false
set_option linter.unusedSimpArgs false
theorem Vz {α β:Type} {R:α→β→Prop} {l:List α} {k:List β} (h:All2 R l k):l.length=k.length:=by
 induction h with
 | nil=>rfl
 | cons _ _ ih=>simp [ih]
theorem Uz {α β:Type} {R:α→β→Prop} {l:List α} {k:List β} (h:All2 R l k) (d:α) (e:β):∀i,i<l.length→R (l.getD i d) (k.getD i e):=by
 induction h with
 | nil=>intro i hi;simp at hi
 | cons h _ ih =>
  intro i hi
  cases i with
  | zero=>exact h
  | succ i=>exact ih i (by simpa using hi)
theorem Xv (F:Nat) (a:law03_Air) (hk:0≤a.Kind∧a.Kind≤255) (hL:0≤a.Lambda∧a.Lambda≤255) (hf:0≤a.First∧a.First≤65535) (hs:0≤a.Second∧a.Second≤65535) :
  ∃t,Dw F a=some (pt t)∧G8 t=0∧(30000≤t.Lambda∧t.Lambda≤132000)∧(500≤t.First∧t.First≤1499)∧(t.Kind≠1→t.First<t.Second∧t.Second≤2999):=by
 unfold Dw;rw [ckb (by omega),ckb (by omega),ckb (by omega),ckb (by omega),Rg (by omega) (by omega),sb,ckb (by omega),ckb (by omega),Rg (by omega) (by omega),sb,ckb (by omega)]
 by_cases h1:1+a.Kind%3=1
 ·rw [B9 (by simp;omega)];refine ⟨⟨_,_,_,_,4⟩,rfl,?_,?_⟩
  ·unfold G8 Ln;rw [h1,if_neg (by simp),if_pos];apply decide_eq_true;dsimp only;exact ⟨by omega,by omega,by omega,by omega,by omega,.inl ⟨rfl,rfl,by omega⟩⟩
  ·simp only;omega
 ·rw [C9 (by simp;omega),ckb (by omega),ckb (by omega),Rg (by omega) (by omega),sb,ckb (by omega)];refine ⟨⟨_,_,_,_,4⟩,rfl,?_,?_⟩
  ·have hk2:1+a.Kind%3=2∨1+a.Kind%3=3:=by omega
   unfold G8 Ln;rcases hk2 with e|e
   ·rw [e,if_neg (by simp),if_pos];apply decide_eq_true;dsimp only;refine ⟨by omega,by omega,by omega,by omega,by omega,.inr (.inl ⟨rfl,rfl,by omega,by omega,by omega,by omega⟩)⟩
   ·rw [e,if_neg (by simp),if_pos];apply decide_eq_true;dsimp only;refine ⟨by omega,by omega,by omega,by omega,by omega,.inr (.inr ⟨rfl,by omega,by omega,by omega,by omega⟩)⟩
  ·simp only;omega
structure Gate (t:ref02_Train) (c J:Int) (x:api_Echo) (v:Int):Prop where
 bd:-50000≤v∧v≤50000
 near:c-J/2≤v∧v≤c+J/2
 ok:echoE x=0
 hit:x.Kind=3→turnB (stepOf x 0)=true∧hit t 0 (stepOf x 0) v∧(t.Kind≠1→turnB (stepOf x 1)=true∧hit t 1 (stepOf x 1) v)
structure AirOk (a:law03_Air):Prop where
 kind:0≤a.Kind∧a.Kind≤255
 lam:0≤a.Lambda∧a.Lambda≤255
 first:0≤a.First∧a.First≤65535
 second:0≤a.Second∧a.Second≤65535
 rose:0≤a.Rose∧a.Rose≤255
 gates:0≤a.Gates∧a.Gates≤255
 base:-32768≤a.Base∧a.Base≤32767
 speeds:∀b∈a.Speeds,-32768≤b∧b≤32767
 less:∀b∈a.Less,0≤b∧b≤65535
 more:∀b∈a.More,0≤b∧b≤65535
 jump:0≤a.Jump∧a.Jump≤65535
theorem Uk (F:Nat) {l:List Int} (h:∀b∈l,0≤b∧b≤65535) {i:Int} (hi:0≤i∧i≤1000):∃y,C3 F l i=some y∧0≤y∧y<30000:=by
 unfold C3
 by_cases h0:l=[]
 ·subst h0;exact ⟨0,rfl,by omega,by omega⟩
 ·have hl:0<l.length:=List.length_pos_iff.2 h0;have e:(((l.length:Nat):Int)==0)=false:=by simpa using h0
  have hr:=Int.emod_nonneg i (show ((l.length:Nat):Int)≠0 by omega);have hr2:=Int.emod_lt_of_pos i (show 0<((l.length:Nat):Int) by omega);rw [B9 e,Rg hi.1 (by omega),sb,El default ⟨hr,hr2⟩];have hm:l.getD (i%((l.length:Nat):Int)).toNat default∈l:=by
   rw [List.getD_eq_getElem?_getD,List.getElem?_eq_getElem (by omega:(i%((l.length:Nat):Int)).toNat<l.length)];exact List.getElem_mem _
  have:=h _ hm;generalize l.getD (i%((l.length:Nat):Int)).toNat default=u at *;rw [ckb (by omega),Rg (by omega) (by omega),sb];exact ⟨_,rfl,by omega,by omega⟩
section
variable {F:Nat} {a:law03_Air} {t:ref02_Train} {c:Int}
theorem A5j (h:AirOk a) (hE:G8 t=0) (hL:30000≤t.Lambda∧t.Lambda≤132000) (hf:500≤t.First∧t.First≤1499) (hs:t.Kind≠1→t.First<t.Second∧t.Second≤2999)
  {es:List api_Echo} {vs:List Int} {i:Nat} (hi:i≤100) (he:es.length≤100) (hv:vs.length≤100) (k5:List api_Echo→List Int→Int→Option (api_Sweep×List (List Int))) {idx v:Int} (hx:0≤idx∧idx≤1000) (hb:-50000≤v∧v≤50000) (hn:c-(a.Jump%8000)/2≤v∧v≤c+(a.Jump%8000)/2) :
  ∃x,Cf F a (pt t) es vs (i:Int) k5 idx v=k5 (es++[x]) (vs++[v]) ((i+1:Nat):Int)∧Gate t c (a.Jump%8000) x v:=by
 obtain ⟨l,l1,l2,l3⟩:=Uk F h.less hx;obtain ⟨m,m1,m2,m3⟩:=Uk F h.more hx;obtain ⟨s1,p1,p2,p3⟩:=Xl F t 0 v l m hL (by unfold us;simp;omega) hb ⟨l2,l3⟩ ⟨m2,m3⟩;have hK8:∀x:api_Echo,D5 es vs (i:Int) k5 v x.Kind x.Power.Lo x.Match.Lo x.Match.Hi x.Turn.Lo x.Turn.Hi x.Power.Hi x.Steps.1.Lo x.Steps.1.Hi x.Steps.2.Lo x.Steps.2.Hi x.Spread x.Ratio.Lo x.Ratio.Hi=k5 (es++[x]) (vs++[v]) ((i+1:Nat):Int):=fun x=>by
  unfold D5;rw [Kr (by simp;omega),Kr (by simp;omega),ckb (by omega)];rfl
 have hK7:∀s2:api_Span,turnB s2=true→(t.Kind≠1→hit t 1 s2 v)→∃x,D4 a es vs (i:Int) k5 idx v s1 s2.Lo s2.Hi=k5 (es++[x]) (vs++[v]) ((i+1:Nat):Int)∧Gate t c (a.Jump%8000) x v:=by
  intro s2 ht2 hh2;unfold D4;rw [Rg hx.1 (by omega),sb];have hsh:A4q .u32 a.Blank (idx%32)=some (a.Blank.fdiv (2 ^ min (idx%32).toNat 32)):=by
   unfold A4q;rw [if_pos (by omega)];rfl
  rw [hsh,sb]
  cases (A7c .u32 (a.Blank.fdiv (2 ^ min (idx%32).toNat 32)) 1==1) with
  | true =>
   refine ⟨⟨1,⟨0,5⟩,(⟨0,0⟩,⟨0,0⟩),0,⟨0,0⟩,⟨0,0⟩,⟨0,0⟩⟩,?_,hb,hn,rfl,fun hk=>by cases hk⟩
   exact hK8 ⟨1,⟨0,5⟩,(⟨0,0⟩,⟨0,0⟩),0,⟨0,0⟩,⟨0,0⟩,⟨0,0⟩⟩
  | false=>exact ⟨A0 s1 s2,hK8 (A0 s1 s2),hb,hn,A5e p2 ht2,fun _=>⟨p2,p3,fun hk=>⟨ht2,hh2 hk⟩⟩⟩
 unfold Cf;have e1:us t 0=(pt t).First:=rfl;rw [e1] at p1;rw [l1,sb,m1,sb,p1,sb]
 by_cases hk:t.Kind=1
 ·rw [B9 (by simpa [pt] using hk)];exact hK7 ⟨0,0⟩ rfl fun h=>absurd hk h
 ·obtain ⟨s2,q1,q2,q3⟩:=Xl F t 1 v m l hL (by have:=hs hk;unfold us;simp;omega) hb ⟨m2,m3⟩ ⟨l2,l3⟩;have e2:us t 1=(pt t).Second:=rfl;rw [e2] at q1;rw [C9 (by simpa [pt] using hk),sb,sb,q1,sb];exact hK7 s2 q2 fun _=>q3
def cen (a:law03_Air):Int:=if a.Speeds=[] then a.Base else a.Base-(a.Jump%8000)/4
theorem A56 (h:AirOk a) (hE:G8 t=0) (hL:30000≤t.Lambda∧t.Lambda≤132000) (hf:500≤t.First∧t.First≤1499) (hs:t.Kind≠1→t.First<t.Second∧t.Second≤2999) {g r:Nat} (hg:g≤4) (hr:r≤100)
  (X:List (List api_Echo)) (V:List (List Int)) (k2:List (List api_Echo)→Int→List (List Int)→Option (api_Sweep×List (List Int))):∀(q N i:Nat) (es:List api_Echo) (vs:List Int),i+q=g→q<N→es.length=i→vs.length=i →
  ∃es' vs',Be F a (pt t) (g:Int) (a.Jump%8000) X (r:Int) V k2 N es vs (i:Int)=D3 X (r:Int) V k2 (es++es') (vs++vs')∧es'.length=q∧All2 (Gate t (cen a) (a.Jump%8000)) es' vs':=by
 intro q
 induction q with
 | zero =>
  intro N i es vs hi hN he hv;obtain ⟨N,rfl⟩:∃N',N=N'+1:=⟨N-1,by omega⟩;refine ⟨[],[],?_,rfl,.nil⟩;show Ce F a (pt t) (g:Int) (a.Jump%8000) X (r:Int) V k2 (Be F a (pt t) (g:Int) (a.Jump%8000) X (r:Int) V k2 N) es vs (i:Int)=_;unfold Ce;rw [B9 (decide_eq_false (by omega)),List.append_nil,List.append_nil]
 | succ q ih =>
  intro N i es vs hi hN he hv;obtain ⟨N,rfl⟩:∃N',N=N'+1:=⟨N-1,by omega⟩;have hrg:0≤(r:Int)*(g:Int)∧(r:Int)*(g:Int)≤400:=by
   constructor
   ·exact Int.mul_nonneg (by omega) (by omega)
   ·have:=Int.mul_le_mul_of_nonneg_left (show (g:Int)≤4 by omega) (show 0≤(r:Int) by omega);omega
  have key:∀v:Int,(-50000≤v∧v≤50000)→(cen a-(a.Jump%8000)/2≤v∧v≤cen a+(a.Jump%8000)/2) →
    ∃es' vs',Cf F a (pt t) es vs (i:Int) (Be F a (pt t) (g:Int) (a.Jump%8000) X (r:Int) V k2 N) ((r:Int)*(g:Int)+(i:Int)) v=D3 X (r:Int) V k2 (es++es') (vs++vs')∧es'.length=q+1∧All2 (Gate t (cen a) (a.Jump%8000)) es' vs':=by
   intro v hv1 hv2;obtain ⟨x,x1,x2⟩:=A5j (F:=F) (c:=cen a) h hE hL hf hs (es:=es) (vs:=vs) (i:=i) (by omega) (by omega) (by omega) (Be F a (pt t) (g:Int) (a.Jump%8000) X (r:Int) V k2 N) (idx:=(r:Int)*(g:Int)+(i:Int)) (by omega) hv1 hv2;obtain ⟨es',vs',e1,e2,e3⟩:=ih N (i+1) (es++[x]) (vs++[v]) (by omega) (by omega) (by simp [he]) (by simp [hv]);refine ⟨x::es',v::vs',?_,by simp [e2],.cons x2 e3⟩;rw [x1,e1,List.append_assoc,List.append_assoc];rfl
  have hj:=h.jump;have hb:=h.base;show ∃es' vs',Ce F a (pt t) (g:Int) (a.Jump%8000) X (r:Int) V k2 (Be F a (pt t) (g:Int) (a.Jump%8000) X (r:Int) V k2 N) es vs (i:Int)=_∧_;unfold Ce;rw [C9 (decide_eq_true (by omega)),ckb (by omega),ckb (by omega),ckb (by omega)]
  by_cases h0:a.Speeds=[]
  ·rw [B9 (by simp [h0])];have hc:cen a=a.Base:=by unfold cen;rw [if_pos h0]
   exact key _ (by omega) (by omega)
  ·have hl:0<a.Speeds.length:=List.length_pos_iff.2 h0;have hc:cen a=a.Base-(a.Jump%8000)/4:=by unfold cen;rw [if_neg h0]
   have hr1:=Int.emod_nonneg ((r:Int)*(g:Int)+(i:Int)) (show ((a.Speeds.length:Nat):Int)≠0 by omega);have hr2:=Int.emod_lt_of_pos ((r:Int)*(g:Int)+(i:Int)) (show 0<((a.Speeds.length:Nat):Int) by omega);rw [C9 (decide_eq_true (by omega)),Rg (by omega) (by omega),sb,El default ⟨hr1,hr2⟩];have hm:a.Speeds.getD (((r:Int)*(g:Int)+(i:Int))%((a.Speeds.length:Nat):Int)).toNat default∈a.Speeds:=by
    rw [List.getD_eq_getElem?_getD,List.getElem?_eq_getElem (by omega:(((r:Int)*(g:Int)+(i:Int))%((a.Speeds.length:Nat):Int)).toNat<a.Speeds.length)];exact List.getElem_mem _
   have hu:=h.speeds _ hm;generalize a.Speeds.getD (((r:Int)*(g:Int)+(i:Int))%((a.Speeds.length:Nat):Int)).toNat default=u at *;obtain ⟨J,hJ⟩:∃J,a.Jump%8000=J:=⟨_,rfl⟩;have hJb:0≤J∧J<8000:=by omega
   rw [hJ] at key hc ⊢;have q2:Rf J 2=some (J/2):=by rw [(Pp (by omega) (by omega)).1,Int.tdiv_eq_ediv_of_nonneg hJb.1]
   have q4:Rf J 4=some (J/4):=by rw [(Pp (by omega) (by omega)).1,Int.tdiv_eq_ediv_of_nonneg hJb.1]
   have hrem:Hu u (J/2+1)=some (u.tmod (J/2+1)):=by unfold Hu;rw [if_neg (by omega)]
   have ht1:-(J/2)≤u.tmod (J/2+1)∧u.tmod (J/2+1)≤J/2:=by
    rcases Int.le_total 0 u with hp|hp
    ·have h1:=Int.tmod_lt_of_pos u (show 0<J/2+1 by omega);have h2:=Int.tmod_nonneg (J/2+1) hp;omega
    ·have h1:=Int.tmod_lt_of_pos (-u) (show 0<J/2+1 by omega);have h2:=Int.tmod_nonneg (J/2+1) (show 0≤-u by omega);rw [Int.neg_tmod] at h1 h2;omega
   rw [ckb (by omega),q2,sb,ckb (by omega),hrem,sb,q4,sb,ckb (by omega),ckb (by omega)];exact key _ (by omega) (by omega)
theorem A2h (hF:10≤F) (h:AirOk a) (hE:G8 t=0) (hL:30000≤t.Lambda∧t.Lambda≤132000) (hf:500≤t.First∧t.First≤1499) (hs:t.Kind≠1→t.First<t.Second∧t.Second≤2999) {g n:Nat} (hg:g≤4) (hn:n≤8) (ro:Int) :
  ∀(q N r:Nat) (X:List (List api_Echo)) (V:List (List Int)),r+q=n→q<N→X.length=r→V.length=r →
  ∃X' V',Bo F a (pt t) ro (g:Int) (a.Jump%8000) (n:Int) N X (r:Int) V=F9 ro (g:Int) (X++X') (V++V')∧X'.length=q∧All2 (fun r' v'=>r'.length=g∧All2 (Gate t (cen a) (a.Jump%8000)) r' v') X' V':=by
 intro q
 induction q with
 | zero =>
  intro N r X V hi hN he hv;obtain ⟨N,rfl⟩:∃N',N=N'+1:=⟨N-1,by omega⟩;refine ⟨[],[],?_,rfl,.nil⟩;show Cc F a (pt t) ro (g:Int) (a.Jump%8000) (n:Int) (Bo F a (pt t) ro (g:Int) (a.Jump%8000) (n:Int) N) X (r:Int) V=_;unfold Cc;rw [B9 (decide_eq_false (by omega)),List.append_nil,List.append_nil]
 | succ q ih =>
  intro N r X V hi hN he hv;obtain ⟨N,rfl⟩:∃N',N=N'+1:=⟨N-1,by omega⟩;show ∃X' V',Cc F a (pt t) ro (g:Int) (a.Jump%8000) (n:Int) (Bo F a (pt t) ro (g:Int) (a.Jump%8000) (n:Int) N) X (r:Int) V=_∧_;unfold Cc;obtain ⟨es,vs,e1,e2,e3⟩:=A56 (F:=F) h hE hL hf hs hg (by omega:r≤100) X V (Bo F a (pt t) ro (g:Int) (a.Jump%8000) (n:Int) N) g F 0 [] [] (by omega) (by omega) rfl rfl;rw [List.nil_append,List.nil_append] at e1;obtain ⟨X',V',x1,x2,x3⟩:=ih N (r+1) (X++[es]) (V++[vs]) (by omega) (by omega) (by simp [he]) (by simp [hv]);refine ⟨es::X',vs::V',?_,by simp [x2],.cons ⟨e2,e3⟩ x3⟩;rw [C9 (decide_eq_true (by omega))];refine Eq.trans e1 ?_;unfold D3 Fa;rw [Kr (by simp;omega),Kr (by simp;omega),ckb (by omega)];rw [Int.natCast_add] at x1;refine Eq.trans x1 ?_;rw [List.append_assoc,List.append_assoc];rfl
theorem A4s (hF:10≤F) (h:AirOk a):∃t X V,Dw F a=some (pt t)∧Fh F a=some (⟨⟨⟨#[115]⟩,0,0,0,1+a.Rose%2,1+a.Gates%4,500,0⟩,0,0,X⟩,V)∧G8 t=0∧(30000≤t.Lambda∧t.Lambda≤132000)∧(500≤t.First∧t.First≤1499)∧(t.Kind≠1→t.First<t.Second∧t.Second≤2999) ∧
  (X.length:Int)=4*(1+a.Rose%2)∧All2 (fun r' v'=>(r'.length:Int)=1+a.Gates%4∧All2 (Gate t (cen a) (a.Jump%8000)) r' v') X V:=by
 obtain ⟨t,t1,t2,t3,t4,t5⟩:=Xv F a h.kind h.lam h.first h.second;have hr:=h.rose;have hg:=h.gates;have hj:=h.jump;obtain ⟨g,hgg⟩:∃g:Nat,1+a.Gates%4=(g:Int):=⟨(1+a.Gates%4).toNat,by omega⟩;obtain ⟨n,hnn⟩:∃n:Nat,4*(1+a.Rose%2)=(n:Int):=⟨(4*(1+a.Rose%2)).toNat,by omega⟩;obtain ⟨X,V,x1,x2,x3⟩:=A2h hF h t2 t3 t4 t5 (show g≤4 by omega) (show n≤8 by omega) (1+a.Rose%2) n F 0 [] [] (by omega) (by omega) rfl rfl;refine ⟨t,X,V,t1,?_,t2,t3,t4,t5,by rw [hnn,x2],?_⟩
 ·unfold Fh;rw [t1,sb,ckb (by omega),Rg hr.1 (by omega),sb,ckb (by omega),ckb (by omega),Rg hg.1 (by omega),sb,ckb (by omega),ckb (by omega),Rg hj.1 (by omega),sb,ckb (by omega),hgg,hnn];refine Eq.trans x1 ?_;rfl
 ·rw [hgg];have conv:∀{A:List (List api_Echo)} {B:List (List Int)},All2 (fun r' v'=>r'.length=g∧All2 (Gate t (cen a) (a.Jump%8000)) r' v') A B→All2 (fun r' v'=>(r'.length:Int)=(g:Int)∧All2 (Gate t (cen a) (a.Jump%8000)) r' v') A B:=by
   intro A B hh
   induction hh with
   | nil=>exact .nil
   | cons h1 _ ih=>exact .cons ⟨by rw [h1.1],h1.2⟩ ih
  exact conv x3
end
end Go.Proofs.Ytbhjgebjojdohaa
namespace Go.Proofs.Ytbhjgebjojdohaa
open Go Go.RowKit Go.Eng
set_option maxRecDepth 10000
set_option linter.unusedVariables false
set_option linter.unusedSimpArgs false
section
variable {F:Nat} {X:List (List api_Echo)} {ro g:Int}
def swp (ro g:Int) (X:List (List api_Echo)):api_Sweep:=⟨⟨⟨#[115]⟩,0,0,0,ro,g,500,0⟩,0,0,X⟩
theorem A87 (F:Nat):Ms F ⟨#[115]⟩=some true:=by kernel_rfl
theorem A92 (hr:1≤ro∧ro≤2) (hg:1≤g∧g≤4):Fw F ⟨⟨#[115]⟩,0,0,0,ro,g,500,0⟩=some 0:=by
 have w1:Ag ro 1 90=true:=by unfold Ag;rw [decide_eq_true (by omega),decide_eq_true (by omega)];rfl
 have w2:Ag g 1 200=true:=by unfold Ag;rw [decide_eq_true (by omega),decide_eq_true (by omega)];rfl
 unfold Fw;simp only;rw [A87,sb,B9 (by rfl),B9 (by rfl),B9 (by rfl)];unfold Dk;simp only;rw [w1,w2];rfl
theorem We (hF:4≤F) (u:List api_Echo) (hu:u.length≤1000) (hok:∀x∈u,echoE x=0) (x270:Int) (k3:Int→Option Int):∀(q N i:Nat),i+q=u.length→q<N→Bz F x270 k3 u N (i:Int)=E0 x270 k3:=by
 intro q
 induction q with
 | zero =>
  intro N i hi hN;obtain ⟨N,rfl⟩:∃N',N=N'+1:=⟨N-1,by omega⟩;show Bx F x270 k3 u (Bz F x270 k3 u N) (i:Int)=_;unfold Bx;rw [B9 (decide_eq_false (by omega))]
 | succ q ih =>
  intro N i hi hN;obtain ⟨N,rfl⟩:∃N',N=N'+1:=⟨N-1,by omega⟩;show Bx F x270 k3 u (Bz F x270 k3 u N) (i:Int)=_;unfold Bx;have hm:u.getD i default∈u:=by rw [List.getD_eq_getElem?_getD,List.getElem?_eq_getElem (by omega:i<u.length)];exact List.getElem_mem _
  rw [C9 (decide_eq_true (by omega)),El default (by omega),Int.toNat_natCast,M0,Yz F hF,hok _ hm,sb,B9 (by rfl),ckb (by omega)];have:=ih N (i+1) (by omega) (by omega);rw [Int.natCast_add] at this;exact this
theorem A2i (hF:2000≤F) (hX:X.length≤1000) (hx:∀r∈X,r.length≤1000∧∀x∈r,echoE x=0):∀(q N i:Nat),i+q=X.length→q<N→Bj F (swp ro g X) N (i:Int)=some 0:=by
 intro q
 induction q with
 | zero =>
  intro N i hi hN;obtain ⟨N,rfl⟩:∃N',N=N'+1:=⟨N-1,by omega⟩;show Bw F (swp ro g X) (Bj F (swp ro g X) N) (i:Int)=_;unfold Bw;have e0:(swp ro g X).Rays=X:=rfl;rw [e0,B9 (decide_eq_false (show ¬(i:Int)<((X.length:Nat):Int) by omega))];rfl
 | succ q ih =>
  intro N i hi hN;obtain ⟨N,rfl⟩:∃N',N=N'+1:=⟨N-1,by omega⟩;show Bw F (swp ro g X) (Bj F (swp ro g X) N) (i:Int)=_;unfold Bw;have e0:(swp ro g X).Rays=X:=rfl;have hm:X.getD i []∈X:=by rw [List.getD_eq_getElem?_getD,List.getElem?_eq_getElem (by omega:i<X.length)];exact List.getElem_mem _
  rw [e0,C9 (decide_eq_true (by omega)),El [] (by omega),Int.toNat_natCast];have h1:=We (F:=F) (by omega) (X.getD i []) (hx _ hm).1 (hx _ hm).2 (i:Int) (Bj F (swp ro g X) N) (X.getD i []).length F 0 (by omega) (by have:=(hx _ hm).1;omega);refine Eq.trans h1 ?_;unfold E0;rw [ckb (by omega)];have:=ih N (i+1) (by omega) (by omega);rw [Int.natCast_add] at this;exact this
theorem A1d (hF:2000≤F) (hX:X.length≤1000) (hx:∀r∈X,(r.length:Int)=g∧r.length≤1000∧∀x∈r,echoE x=0):∀(q N i:Nat),i+q=X.length→q<N→C0 F (swp ro g X) N (i:Int)=some 0:=by
 intro q
 induction q with
 | zero =>
  intro N i hi hN;obtain ⟨N,rfl⟩:∃N',N=N'+1:=⟨N-1,by omega⟩;show By F (swp ro g X) (C0 F (swp ro g X) N) (i:Int)=_;unfold By;have e0:(swp ro g X).Rays=X:=rfl;rw [e0,B9 (decide_eq_false (show ¬(i:Int)<((X.length:Nat):Int) by omega))];exact A2i hF hX (fun r hr=>(hx r hr).2) X.length F 0 (by omega) (by omega)
 | succ q ih =>
  intro N i hi hN;obtain ⟨N,rfl⟩:∃N',N=N'+1:=⟨N-1,by omega⟩;show By F (swp ro g X) (C0 F (swp ro g X) N) (i:Int)=_;unfold By;have e0:(swp ro g X).Rays=X:=rfl;have e1:(swp ro g X).Site.Gates=g:=rfl;have hm:X.getD i []∈X:=by rw [List.getD_eq_getElem?_getD,List.getElem?_eq_getElem (by omega:i<X.length)];exact List.getElem_mem _
  rw [e0,e1,C9 (decide_eq_true (by omega)),El [] (by omega),Int.toNat_natCast,(hx _ hm).1,B9 (by simp),ckb (by omega)];have:=ih N (i+1) (by omega) (by omega);rw [Int.natCast_add] at this;exact this
theorem A0p (hF:2000≤F) (hr:1≤ro∧ro≤2) (hg:1≤g∧g≤4) (hl:(X.length:Int)=4*ro) (hx:∀r∈X,(r.length:Int)=g∧∀x∈r,echoE x=0):D7 F (swp ro g X)=some 0:=by
 have h:=A1d (ro:=ro) (g:=g) hF (by omega) (fun r hr=>⟨(hx r hr).1,by have:=(hx r hr).1;omega,(hx r hr).2⟩) X.length F 0 (by omega) (by omega);unfold D7;have e0:(swp ro g X).Site=⟨⟨#[115]⟩,0,0,0,ro,g,500,0⟩:=rfl;have e1:(swp ro g X).Rays=X:=rfl;have e2:(swp ro g X).Site.Rose=ro:=rfl;rw [e2,e1,e0,A92 hr hg,sb,B9 (by rfl),B9 (by rfl),ckb (by omega),hl,B9 (by simp)];exact h
end
section
variable {t:ref02_Train} {c J:Int} {X:List (List api_Echo)} {V:List (List Int)} {n m:Nat}
def vX (V:List (List Int)) (a i:Nat):Int:=(V.getD a []).getD i 0
def fX (s:api_Sweep) (V:List (List Int)) (n m:Nat):Fam:=fun p=>if p.1<n∧p.2<m∧(gX s p.1 p.2).Kind=3 then [⟨vX V p.1 p.2,vX V p.1 p.2⟩] else []
theorem Q6 {s:api_Sweep} {p:Pl} {z:Int}:mem z (fX s V n m p)↔(p.1<n∧p.2<m∧(gX s p.1 p.2).Kind=3)∧z=2*vX V p.1 p.2:=by
 unfold fX
 split
 ·rename_i h
  constructor
  ·rintro ⟨q,hq,hz⟩;simp at hq;subst hq;unfold inS at hz;simp only at hz;exact ⟨h,by omega⟩
  ·rintro ⟨_,hz⟩;exact ⟨_,by simp;rfl,by unfold inS;simp only;omega⟩
 ·rename_i h
  constructor
  ·intro hm;exact absurd hm (K1 z)
  ·rintro ⟨h1,_⟩;exact absurd h1 h
theorem A9d {S:Rays} {br jp:Int} (hj:0≤jp) {p q:Pl} {d:Int} (h:LL S br jp p q d):jp≤d:=by
 rcases h with ⟨_,_,h,rfl⟩|⟨_,_,_,k,hk,_,rfl⟩
 ·have h1:=h.1;have:=Int.mul_le_mul_of_nonneg_left (show (1:Int)≤(q.2:Int)-p.2 by omega) hj;omega
 ·have h1:=hk.1;have:=Int.mul_le_mul_of_nonneg_left (show (1:Int)≤(k:Int) by omega) hj;omega
theorem A9e {S:Rays} {br jp:Int} {p q:Pl} {d:Int} (h:LL S br jp p q d):ne (S.getD p.1 []) p.2=true∧ne (S.getD q.1 []) q.2=true:=by
 rcases h with ⟨h1,h2,h3,h4⟩|⟨h1,h2,h3,k,h4,h5,h6⟩
 ·exact ⟨h3.2.2.1,by rw [←h1];exact h3.2.2.2.1⟩
 ·exact ⟨h2,by rw [h5,←h3];exact h4.2.2.2.1⟩
theorem Wu {s:api_Sweep} {mst:Int} {p:Pl} (h1:p.1<n) (h2:p.2<m) (h:ne ((SX t s mst n m).getD p.1 []) p.2=true):(gX s p.1 p.2).Kind=3:=by
 have e:gt ((SX t s mst n m).getD p.1 []) p.2=sX t s mst p.1 p.2:=A6q h1 h2;unfold ne at h;rw [e] at h;unfold sX at h
 split at h
 ·assumption
 ·simp at h
theorem A4v {s:api_Sweep} {G:Rays} {mst br:Int} (hJ:0≤J) (hg:∀a<n,∀i<m,Gate t c J (gX s a i) (vX V a i)) (hm:50000≤mst) (hG:Inv (SX t s mst n m) (LL (SX t s mst n m) br J) n m G) {a i:Nat} (ha:a<n) (hi:i<m) (h3:(gX s a i).Kind=3):mem (2*vX V a i) (gf G (a,i)):=by
 refine hG.most (fX s V n m) ?_ ?_ (a,i) _ (Q6.2 ⟨⟨ha,hi,h3⟩,rfl⟩)
 ·have key:∀p q d,LL (SX t s mst n m) br J p q d→Xt (fX s V n m) p q d∧Xt (fX s V n m) q p d:=by
   intro p q d h;obtain ⟨i1,i2,i3,i4,_⟩:=Rw Vw h;obtain ⟨n1,n2⟩:=A9e h;have k1:=Wu i1 i2 n1;have k2:=Wu i3 i4 n2;have hd:=A9d hJ h;have b1:=(hg p.1 i1 p.2 i2).near;have b2:=(hg q.1 i3 q.2 i4).near;constructor
   ·intro z hz;obtain ⟨_,rfl⟩:=Q6.1 hz;exact ⟨2*vX V p.1 p.2,Q6.2 ⟨⟨i1,i2,k1⟩,rfl⟩,by omega,by omega⟩
   ·intro z hz;obtain ⟨_,rfl⟩:=Q6.1 hz;exact ⟨2*vX V q.1 q.2,Q6.2 ⟨⟨i3,i4,k2⟩,rfl⟩,by omega,by omega⟩
  rintro p q d (h|h)
  ·exact (key p q d h).1
  ·exact (key q p d h).2
 ·intro p z hz;obtain ⟨⟨h1,h2,h3⟩,rfl⟩:=Q6.1 hz;rw [A6q h1 h2];have hgt:=hg p.1 h1 p.2 h2;obtain ⟨_,q1,q2⟩:=hgt.hit h3;obtain ⟨g,g1,g2⟩:=A3b (t:=t) (x:=gX s p.1 p.2) (m:=mst) q1 (fun hk=>(q2 hk).2) (by have:=hgt.bd;omega);have hv:valid ((gl t (gX s p.1 p.2) mst).map (·.Speed)):=by
   intro u hu;obtain ⟨g',hg',rfl⟩:=List.mem_map.1 hu;exact (Wn hg').1
  unfold sX;rw [if_pos h3];exact (Qr hv _).2 ⟨g.Speed,List.mem_map_of_mem g1,by unfold inS;omega⟩
theorem Ye (y12:api_Sweep×List (List Int)) {a i:Nat} (ha:a<y12.2.length) (hi:i<(y12.2.getD a []).length) (k4:Int→Option Bool) (u:fold_Found) (hu:u.Guesses.length≤1000000):∀(q N j:Nat) (b:Bool),j+q=u.Guesses.length→q<N →
  Bp y12 (a:Int) (i:Int) k4 u N b (j:Int)=Cj (i:Int) k4 u (b||(u.Guesses.drop j).any fun g=>decide (g.Speed.Lo≤vX y12.2 a i)&&decide (vX y12.2 a i≤g.Speed.Hi)):=by
 intro q
 induction q with
 | zero =>
  intro N j b hj hN;obtain ⟨N,rfl⟩:∃N',N=N'+1:=⟨N-1,by omega⟩;show Ci y12 (a:Int) (i:Int) k4 u (Bp y12 (a:Int) (i:Int) k4 u N) b (j:Int)=_;unfold Ci;rw [B9 (decide_eq_false (by omega)),List.drop_eq_nil_of_le (by omega)];simp
 | succ q ih =>
  intro N j b hj hN;obtain ⟨N,rfl⟩:∃N',N=N'+1:=⟨N-1,by omega⟩;show Ci y12 (a:Int) (i:Int) k4 u (Bp y12 (a:Int) (i:Int) k4 u N) b (j:Int)=_;unfold Ci;rw [C9 (decide_eq_true (by omega)),El default (by omega),Int.toNat_natCast,Dm (i:=j) (by omega) default,List.any_cons];generalize u.Guesses.getD j default=g;have e:∀b2:Bool,(ck ((j:Int)+1)).bind (fun x=>Bp y12 (a:Int) (i:Int) k4 u N b2 x)=Cj (i:Int) k4 u (b2||(u.Guesses.drop (j+1)).any fun g=>decide (g.Speed.Lo≤vX y12.2 a i)&&decide (vX y12.2 a i≤g.Speed.Hi)):=by
   intro b2;rw [ckb (by omega)];have:=ih N (j+1) b2 (by omega) (by omega);rw [Int.natCast_add] at this;exact this
  have hv:(y12.2.getD a []).getD i 0=vX y12.2 a i:=rfl
  cases b with
  | true =>
   rw [C9 rfl,C9 rfl];refine Eq.trans (e true) ?_;rw [Bool.true_or,Bool.true_or]
  | false =>
   rw [B9 rfl,El [] (by omega),Int.toNat_natCast,El 0 (by omega),Int.toNat_natCast,hv]
   by_cases h1:g.Speed.Lo≤vX y12.2 a i
   ·rw [C9 (decide_eq_true (show vX y12.2 a i≥g.Speed.Lo from h1)),El [] (by omega),Int.toNat_natCast,El 0 (by omega),Int.toNat_natCast,hv];refine Eq.trans (e _) ?_;rw [B9 rfl,C9 (decide_eq_true (show vX y12.2 a i≥g.Speed.Lo from h1)),decide_eq_true h1,Bool.true_and,Bool.false_or]
   ·rw [B9 (decide_eq_false (show ¬vX y12.2 a i≥g.Speed.Lo from h1))];refine Eq.trans (e _) ?_;rw [B9 rfl,B9 (decide_eq_false (show ¬vX y12.2 a i≥g.Speed.Lo from h1)),decide_eq_false h1,Bool.false_and,Bool.false_or];rfl
end
end Go.Proofs.Ytbhjgebjojdohaa
namespace Go.Proofs.Ytbhjgebjojdohaa
open Go Go.RowKit Go.Eng
set_option maxRecDepth 10000
set_option linter.unusedVariables false
set_option linter.unusedSimpArgs false
section
variable {F:Nat} {t:ref02_Train} {c J:Int} {s:api_Sweep} {V:List (List Int)} {n m:Nat} {mst br:Int} {G:Rays}
theorem A1j (r:List fold_Guess) (h:0<r.length):(bif (bif (!true) then true else (bif ((mkF r).State != 2) then ((mkF r).State != 3) else false)) then true else (!(((mkF r).State==2)==((((mkF r).Guesses.length:Nat):Int)==1))))=false:=by
 unfold mkF
 match r,h with
 | [a],_=>rfl
 | a::b::l,_ =>
  have e:((((a::b::l).length:Nat):Int)==1)=false:=by simp;omega
  simp only [List.length_cons];rw [if_neg (by omega),if_neg (by omega)];simp only [List.length_cons] at e;rw [e];rfl
theorem A36 (hF:FS≤F) (hJ:0≤J) (hg:∀a<n,∀i<m,Gate t c J (gX s a i) (vX V a i)) (hm:50000≤mst∧mst≤200000) (hG:Inv (SX t s mst n m) (LL (SX t s mst n m) br J) n m G) (hn:n≤1000) (hmm:m≤1000) (hX:s.Rays.length=n) (hV:V.length=n) {a:Nat} (ha:a<n)
  (h1:(s.Rays.getD a []).length=m) (h2:(V.getD a []).length=m) (k2:Int→Option Bool):∀(q N i:Nat),i+q=m→q<N →
  Bf F (s,V) (a:Int) k2 ((List.range m).map (oX t s mst G a)) N (i:Int)=k2 ((a+1:Nat):Int):=by
 have hF1:=hF;unfold FS at hF1;intro q
 induction q with
 | zero =>
  intro N i hi hN;obtain ⟨N,rfl⟩:∃N',N=N'+1:=⟨N-1,by omega⟩;show Ch F (s,V) (a:Int) k2 ((List.range m).map (oX t s mst G a)) (Bf F (s,V) (a:Int) k2 ((List.range m).map (oX t s mst G a)) N) (i:Int)=_;unfold Ch Fb;rw [B9 (decide_eq_false (by simp;omega)),ckb (by omega)];rfl
 | succ q ih =>
  intro N i hi hN;obtain ⟨N,rfl⟩:∃N',N=N'+1:=⟨N-1,by omega⟩;show Ch F (s,V) (a:Int) k2 ((List.range m).map (oX t s mst G a)) (Bf F (s,V) (a:Int) k2 ((List.range m).map (oX t s mst G a)) N) (i:Int)=_;unfold Ch;have e0:((s,V):api_Sweep×List (List Int)).1.Rays=s.Rays:=rfl;have hK5:D6 (i:Int) (Bf F (s,V) (a:Int) k2 ((List.range m).map (oX t s mst G a)) N)=k2 ((a+1:Nat):Int):=by
   unfold D6;rw [ckb (by omega)];have:=ih N (i+1) (by omega) (by omega);rw [Int.natCast_add] at this;exact this
  rw [C9 (decide_eq_true (by simp;omega)),A6w (by omega:i<m),e0,El [] (by omega),Int.toNat_natCast,El default (by omega),Int.toNat_natCast];have hx:(s.Rays.getD a []).getD i default=gX s a i:=rfl;rw [hx]
  by_cases h3:(gX s a i).Kind=3
  ·rw [B9 (by simpa using h3)];have hgt:=hg a ha i (by omega);have hmem:=A4v hJ hg hm.1 hG ha (by omega:i<m) h3;obtain ⟨_,q1,q2⟩:=hgt.hit h3;obtain ⟨g,g1,g2⟩:=A3b (t:=t) (x:=gX s a i) (m:=mst) q1 (fun hk=>(q2 hk).2) (by have:=hgt.bd;omega);obtain ⟨p,p1,p2⟩:=A3n (hG.good.good (a,i)) (fun g hg=>(Wn hg).1) g1 g2 hmem;have e1:oX t s mst G a i=mkF ((gl t (gX s a i) mst).filterMap (Ug (gf G (a,i)))):=by unfold oX A3l;rw [if_pos h3]
   have hlen:(oX t s mst G a i).Guesses.length≤129*129:=by
    rw [e1];exact Nat.le_trans (List.length_filterMap_le _ _) Yd
   have h5:=Ye (s,V) (a:=a) (i:=i) (by simp only;omega) (by simp only;omega) (Bf F (s,V) (a:Int) k2 ((List.range m).map (oX t s mst G a)) N) (oX t s mst G a i) (by omega) (oX t s mst G a i).Guesses.length F 0 false (by omega) (by omega);refine Eq.trans h5 ?_;have hany:(false||((oX t s mst G a i).Guesses.drop 0).any fun g=>decide (g.Speed.Lo≤vX V a i)&&decide (vX V a i≤g.Speed.Hi))=true:=by
    rw [Bool.false_or,List.any_eq_true,List.drop_zero,e1];exact ⟨p,p1,by rw [decide_eq_true p2.1,decide_eq_true p2.2];rfl⟩
   refine Eq.trans (congrArg (Cj (i:Int) _ (oX t s mst G a i)) hany) ?_;unfold Cj;rw [e1,A1j _ (List.length_pos_of_mem p1),B9 rfl];exact hK5
  ·have e1:oX t s mst G a i=⟨1,[]⟩:=by unfold oX;rw [if_neg h3]
   rw [C9 (by simpa using h3),e1,B9 (by rfl)];exact hK5
theorem A66 (hF:FS≤F) (hJ:0≤J) (hg:∀a<n,∀i<m,Gate t c J (gX s a i) (vX V a i)) (hm:50000≤mst∧mst≤200000) (hG:Inv (SX t s mst n m) (LL (SX t s mst n m) br J) n m G) (hn:n≤1000) (hmm:m≤1000) (hX:s.Rays.length=n) (hV:V.length=n)
  (h1:∀a<n,(s.Rays.getD a []).length=m) (h2:∀a<n,(V.getD a []).length=m) (e:Int):∀(q N a:Nat),a+q=n→q<N →
  Ck F (s,V) ((List.range n).map (fun a=>(List.range m).map (oX t s mst G a)),e) N (a:Int)=some true:=by
 have hF1:=hF;unfold FS at hF1;intro q
 induction q with
 | zero =>
  intro N a hi hN;obtain ⟨N,rfl⟩:∃N',N=N'+1:=⟨N-1,by omega⟩;show Cg F (s,V) ((List.range n).map (fun a=>(List.range m).map (oX t s mst G a)),e) (Ck F (s,V) ((List.range n).map (fun a=>(List.range m).map (oX t s mst G a)),e) N) (a:Int)=_;unfold Cg;rw [B9 (decide_eq_false (by simp;omega))];rfl
 | succ q ih =>
  intro N a hi hN;obtain ⟨N,rfl⟩:∃N',N=N'+1:=⟨N-1,by omega⟩;show Cg F (s,V) ((List.range n).map (fun a=>(List.range m).map (oX t s mst G a)),e) (Ck F (s,V) ((List.range n).map (fun a=>(List.range m).map (oX t s mst G a)),e) N) (a:Int)=_;unfold Cg;have e0:((s,V):api_Sweep×List (List Int)).2=V:=rfl;have h2a:=h2 a (by omega);rw [C9 (decide_eq_true (by simp;omega)),A6x (by omega:a<n),e0,El [] (by omega),Int.toNat_natCast,B9 (by rw [List.length_map,List.length_range,h2a,bne_self_eq_false])];refine Eq.trans (A36 hF hJ hg hm hG hn hmm hX hV (by omega:a<n) (h1 a (by omega)) h2a _ m F 0 (by omega) (by omega)) ?_;exact ih N (a+1) (by omega) (by omega)
end
theorem A3p {α:Type} {l:List α} {x:α} (h:x∈l) (d:α):∃i,i<l.length∧l.getD i d=x:=by
 obtain ⟨i,hi,e⟩:=List.mem_iff_getElem.1 h;exact ⟨i,hi,by rw [List.getD_eq_getElem?_getD,List.getElem?_eq_getElem hi];exact e⟩
theorem Uw (F:Nat) (hF:FS≤F) (a:law03_Air) (h:AirOk a) (b:Int) (hb:0≤b∧b≤255):Fi F a b=some true:=by
 have hF2:FF≤F:=by unfold FS at hF;unfold FF;omega
 have hF1:=hF2;unfold FF at hF1;obtain ⟨t,X,V,h1,h2,h3,h4,h5,h6,h7,h8⟩:=A4s (F:=F) (by omega) h;have hj:=h.jump;have hr:=h.rose;have hgt:=h.gates;have hXV:=Vz h8;obtain ⟨n,hn⟩:∃n,X.length=n:=⟨_,rfl⟩;obtain ⟨m,hm⟩:∃m:Nat,1+a.Gates%4=(m:Int):=⟨(1+a.Gates%4).toNat,by omega⟩;have hat:=Uz h8 [] [];have hrow:∀i<n,(X.getD i []).length=m:=fun i hi=>by have:=(hat i (by omega)).1;omega
 have hrow2:∀i<n,(V.getD i []).length=m:=fun i hi=>by rw [←Vz (hat i (by omega)).2];exact hrow i hi
 have hgate:∀i<n,∀k<m,Gate t (cen a) (a.Jump%8000) (gX (swp (1+a.Rose%2) (1+a.Gates%4) X) i k) (vX V i k):=fun i hi k hk=>Uz (hat i (by omega)).2 default 0 k (by rw [hrow i hi];exact hk);have hcs:D7 F (swp (1+a.Rose%2) (1+a.Gates%4) X)=some 0:=by
  refine A0p (by omega) (by omega) (by omega) h7 fun r hr=>?_;obtain ⟨i,hi,rfl⟩:=A3p hr [];refine ⟨(hat i hi).1,fun x hx=>?_⟩;obtain ⟨k,hk,rfl⟩:=A3p hx default;exact (Uz (hat i hi).2 default 0 k hk).ok
 have hgl:Zb F t (swp (1+a.Rose%2) (1+a.Gates%4) X) 60000:=by
  intro i k h3';have hi:i<n:=by
   apply Classical.byContradiction;intro hc;have e:gX (swp (1+a.Rose%2) (1+a.Gates%4) X) i k=default:=by
    show (X.getD i []).getD k default=default;rw [show X.getD i []=[] by rw [List.getD_eq_getElem?_getD,List.getElem?_eq_none (by omega)];rfl];rfl
   rw [e] at h3';exact absurd h3' (by decide)
  have hk:k<m:=by
   apply Classical.byContradiction;intro hc;have e:gX (swp (1+a.Rose%2) (1+a.Gates%4) X) i k=default:=by
    show (X.getD i []).getD k default=default;rw [List.getD_eq_getElem?_getD,List.getElem?_eq_none (by rw [hrow i hi];omega)];rfl
   rw [e] at h3';exact absurd h3' (by decide)
  have g:=hgate i hi k hk;obtain ⟨t1,_,t2⟩:=g.hit h3';refine A9o F (by omega) h3 (W8 g.ok h3') (by omega) (Zn h4.1 (by unfold us;simp;omega) (by omega) t1) fun hkd=>?_;have:=h6 hkd;exact Zn h4.1 (by unfold us;simp;omega) (by omega) (t2 hkd).1
 obtain ⟨G,g1,g2,g3⟩:=A2b (s:=swp (1+a.Rose%2) (1+a.Gates%4) X) (mst:=60000) (jp:=a.Jump%8000) (br:=1+b%4) (n:=n) (m:=m) hF h3 hcs (by omega) (by omega) (by omega) hgl hn (by omega) (by omega) hrow;unfold Fi;have eS:(⟨⟨⟨#[115]⟩,0,0,0,1+a.Rose%2,1+a.Gates%4,500,0⟩,0,0,X⟩:api_Sweep)=swp (1+a.Rose%2) (1+a.Gates%4) X:=rfl;rw [eS] at h2;have eE:∀y:api_Sweep,(api_Sweep.mk (api_Site.mk y.Site.Name y.Site.X y.Site.Y y.Site.Z y.Site.Rose y.Site.Gates y.Site.Step y.Site.Width) y.Tilt y.Time y.Rays)=y:=fun _=>rfl;rw [h2,sb,ckb (by omega),Rg hj.1 (by omega),sb,ckb (by omega),Rg hb.1 (by omega),sb,ckb (by omega),h1,sb,eE,g1,sb,B9]
 ·exact A66 hF (by omega) hgate (by omega) g2 (by omega) (by omega) hn (by omega) hrow hrow2 0 n F 0 (by omega) (by omega)
 ·have e1:((((List.range n).map (fun a_1=>(List.range m).map (oX t (swp (1+a.Rose%2) (1+a.Gates%4) X) 60000 G a_1))).length:Nat):Int)=((V.length:Nat):Int):=by simp;omega
  show (bif ((0:Int) != 0) then true else _)=false;rw [B9 (c:=((0:Int) != 0)) rfl];show (((((List.range n).map (fun a_1=>(List.range m).map (oX t (swp (1+a.Rose%2) (1+a.Gates%4) X) 60000 G a_1))).length:Nat):Int) != ((V.length:Nat):Int))=false;rw [e1,bne_self_eq_false]
end Go.Proofs.Ytbhjgebjojdohaa
