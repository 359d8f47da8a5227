import Derived.Test.YtkdhnnfokfchpaaGreatB3XD
set_option linter.unusedVariables false
set_option linter.unusedSimpArgs false
set_option linter.unusedSectionVars false
namespace Go.Proofs.YtkdhnnfokfchpaaGreat
open Go Go.RowKit Go.Eng
set_option maxRecDepth 10000
set_option linter.unusedVariables false
set_option linter.unusedSimpArgs false
variable {β α:Type} {x:api_Echo} {f:α->Option β} {d y w z br jp:Int} {l a b:List api_Span} {i m n F:Nat} {t:pulse_Train} {s:api_Sweep}
theorem ckb {x:Int} {f:Int->Option β} (h:-9000000000000000000<=x/\x<=9000000000000000000):(ck x).bind f=f x:=by
 unfold ck;rw [if_pos (by omega)];rfl
theorem ck1 {x:Int} (h:-9000000000000000000<=x/\x<=9000000000000000000):ck x=some x:=by
 unfold ck;rw [if_pos (by omega)]
theorem gdT {g:Bool} {o:Option α} {d:α} (h:g=true):gd g o d=o:=by subst h;rfl
theorem gdF {g:Bool} {o:Option α} {d:α} (h:g=false):gd g o d=some d:=by subst h;rfl
theorem B9 {c:Bool} {x y:α} (h:c=true):(bif c then x else y)=x:=by rw [h];rfl
theorem Au {c:Bool} {x y:α} (h:c=false):(bif c then x else y)=y:=by rw [h];rfl
theorem sb {x:α} :(some x).bind f=f x:=rfl
theorem Ev {l:List α} {i:Int} (d:α) (h:0<=i/\i<l.length):(Ax l i).bind f=f (l.getD i.toNat d):=by
 unfold Ax;rw [if_pos h.1,List.getElem?_eq_getElem (by omega),List.getD_eq_getElem?_getD,List.getElem?_eq_getElem (by omega)];rfl
theorem Ky {l k:List α} {B:Nat} {f:List α->Option β} (h:(l.length+k.length)*B<=140737488355328/\l.length+k.length<=9223372036854775807):(apd B l k).bind f=f (l++k):=by
 unfold apd;rw [if_pos h];rfl
def pt (t:pulse_Train):pulse_Train:=⟨t.Lambda,t.Kind,t.First,t.Second,t.Count⟩
def Ra (t:pulse_Train):Bool :=
 decide (10000<=t.Lambda/\t.Lambda<=1000000/\200<=t.First/\t.First<=5000/\t.Count<=64 /\
  ((t.Kind=1/\t.Second=0/\2<=t.Count)\/(t.Kind=2/\t.Count.tmod 2=0/\4<=t.Count/\200<=t.Second/\t.Second<=5000/\t.First<t.Second) \/
   (t.Kind=3/\3<=t.Count/\200<=t.Second/\t.Second<=5000/\t.First<t.Second)))
def Ms (t:pulse_Train):Int:=if t.Kind≠1/\t.Kind≠2/\t.Kind≠3 then 2 else if Ra t=true then 0 else 3
theorem B11 (x:Int):Ht x 2=some (x.tmod 2):=rfl
theorem Qr (F:Nat) (t:pulse_Train):Da F (pt t)=some (Ms t):=by
 unfold Da Dz Fc Ms Ra A9 pt;simp only [B11,Option.bind_some]
 by_cases b:t.Kind=1
 ·simp [b,cond_eq_ite];grind
 ·by_cases c:t.Kind=2
  ·simp [c,cond_eq_ite];grind
  ·by_cases d:t.Kind=3
   ·simp [d,cond_eq_ite];grind
   ·simp [b,c,d,cond_eq_ite]
def turnB (s:api_Span):Bool:=decide (-32768<=s.Lo/\s.Lo<=32767/\s.Lo<=s.Hi/\s.Hi<=s.Lo+65535)
theorem Q5 (p:List api_Span) (k:Int->Option Bool) (i:Nat) (s:api_Span) (h:p[i]? = some s) (hi:i<1000):Db p k (i:Int)=if turnB s then k ((i:Int)+1) else some false:=by
 have d:=(List.getElem?_eq_some_iff.1 h).1;unfold Db;rw [B9 (by simpa using d),Ev s (by omega)];simp only [List.getD_eq_getElem?_getD,Int.toNat_natCast,h,Option.getD_some];unfold turnB A9
 by_cases b:-32768<=s.Lo/\s.Lo<=32767
 ·have e:(bif decide (-32768<=s.Lo) then decide (s.Lo<=32767) else false)=true:=by simp [b.1,b.2]
  rw [e,gdT (g:=(!true)==false&&true) rfl,ckb (by omega),gdT (g:=(!true)==false&&true) rfl,ckb (by omega),ckb (by omega)];have e2:s.Lo+65536-1=s.Lo+65535:=by omega
  rw [e2]
  by_cases c:s.Lo<=s.Hi/\s.Hi<=s.Lo+65535
  ·rw [if_pos (by simp [b,c])];simp [c]
  ·rw [if_neg (by simp;intro _ _ f;omega)];have:(bif decide (s.Lo<=s.Hi) then decide (s.Hi<=s.Lo+65535) else false)=false:=by simp [cond_eq_ite];omega
   rw [this];rfl
 ·have e:(bif decide (-32768<=s.Lo) then decide (s.Lo<=32767) else false)=false:=by simp [cond_eq_ite];omega
  rw [e,gdF (g:=(!false)==false&&true) rfl,sb,gdF (g:=(!false)==false&&true) rfl,sb,if_neg (by simp;intro j c;omega)];rfl
theorem Tp (F:Nat) (d:4<=F) (a b c:api_Span):Ma F [a,b,c]=some (turnB a&&turnB b&&turnB c):=by
 obtain ⟨n,rfl⟩:∃n,F=n+4:=⟨F-4,by omega⟩;show Db [a,b,c] (Ea [a,b,c] (n+3)) ((0:Nat):Int)=_;rw [Q5 _ _ 0 a rfl (by omega)]
 cases e:turnB a
 ·rfl
 ·show Db [a,b,c] (Ea [a,b,c] (n+2)) ((1:Nat):Int)=_;rw [Q5 _ _ 1 b rfl (by omega)]
  cases hb:turnB b
  ·rfl
  ·show Db [a,b,c] (Ea [a,b,c] (n+1)) ((2:Nat):Int)=_;rw [Q5 _ _ 2 c rfl (by omega)]
   cases f:turnB c
   ·rfl
   ·rfl
def inB (s:api_Span) (lo hi:Int):Bool:=decide (lo<=s.Lo/\s.Lo<=s.Hi/\s.Hi<=hi)
def noB (s:api_Span):Bool:=decide (s.Lo=0/\s.Hi=0)
def To (x:api_Echo):Bool :=
 inB x.Power 0 1073741824&&(if x.Kind=1 then decide (x.Power.Lo=0)&&noB x.Steps.1&&noB x.Steps.2&&decide (x.Spread=0)&&noB x.Ratio&&noB x.Match&&noB x.Turn
  else decide (1<=x.Power.Lo)&&inB x.Ratio 0 1000000&&inB x.Match 0 1000&&decide (0<=x.Spread/\x.Spread<=65535) &&
   (if x.Kind=2 then noB x.Steps.1&&noB x.Steps.2&&noB x.Turn else turnB x.Steps.1&&turnB x.Steps.2&&turnB x.Turn))
def echoE (x:api_Echo):Int:=if x.Kind≠1/\x.Kind≠2/\x.Kind≠3 then 2 else if To x=true then 0 else 3
theorem Wf (s:api_Span) (lo hi:Int):Ah s lo hi=inB s lo hi:=by
 unfold Ah inB;rw [Bool.eq_iff_iff];simp [cond_eq_ite];omega
theorem B06 (s:api_Span):(((s.Lo:Int)==0)&&(((s.Hi:Int)==0)&&true))=noB s:=by
 unfold noB;rw [Bool.eq_iff_iff];simp
theorem T4 (s:api_Span):api_Span.mk s.Lo s.Hi=s:=rfl
theorem Qg (p1:api_Echo):(api_Echo.mk p1.Kind p1.Power ((api_Span.mk p1.Steps.1.Lo p1.Steps.1.Hi),(api_Span.mk p1.Steps.2.Lo p1.Steps.2.Hi)) p1.Spread p1.Ratio p1.Match p1.Turn)=p1:=rfl
theorem A0a (F:Nat) (e:4<=F) (x:api_Echo):Hr F x=some (echoE x):=by
 unfold Hr Cm G0 Cm echoE To A9;simp only [T4,Wf,B06,Tp F e,Option.bind_some]
 by_cases b:x.Kind=1
 ·simp [b,cond_eq_ite];grind
 ·by_cases c:x.Kind=2
  ·simp [c,cond_eq_ite];grind
  ·by_cases d:x.Kind=3
   ·simp [d,cond_eq_ite];grind
   ·simp [b,c,d,cond_eq_ite]
theorem Xe {x:Int} (b:-4000000000000000000<=x/\x<=4000000000000000000) (c:0<y):Pd x y=some (x.tdiv y)/\(x.tdiv y<=4000000000000000000/\-4000000000000000000<=x.tdiv y):=by
 have hb:x.tdiv y<=4000000000000000000/\-4000000000000000000<=x.tdiv y:=by
  have h:=Int.natAbs_tdiv_le_natAbs x y;omega
 refine ⟨?_,hb⟩;unfold Pd;rw [if_neg (by omega),ck1 (by omega)]
theorem S7 (x y:Int) (b:0<y):x/y=if x.tmod y<0 then x.tdiv y-1 else x.tdiv y:=by
 have c:=Int.tmod_add_mul_tdiv x y;have d:x.tmod y<y:=by
  rcases Int.le_total 0 x with h|h
  ·exact Int.tmod_lt_of_pos x b
  ·exact Int.tmod_lt_of_pos x b
 have e:-y<x.tmod y:=by
  have:=Int.tmod_lt_of_pos (-x) b;rw [Int.neg_tmod] at this;omega
 split
 ·rename_i h
  apply Int.le_antisymm
  ·apply Int.le_of_lt_add_one;apply Int.ediv_lt_of_lt_mul b;have:(x.tdiv y-1+1)*y=y*x.tdiv y:=by rw [Int.sub_add_cancel,Int.mul_comm]
   omega
  ·apply Int.le_ediv_of_mul_le b;have:(x.tdiv y-1)*y=y*x.tdiv y-y:=by rw [Int.sub_mul,Int.one_mul,Int.mul_comm]
   omega
 ·rename_i h
  apply Int.le_antisymm
  ·apply Int.le_of_lt_add_one;apply Int.ediv_lt_of_lt_mul b;have:(x.tdiv y+1)*y=y*x.tdiv y+y:=by rw [Int.add_mul,Int.one_mul,Int.mul_comm]
   omega
  ·apply Int.le_ediv_of_mul_le b;have:x.tdiv y*y=y*x.tdiv y:=Int.mul_comm ..;omega
theorem Ko (F:Nat) {x:Int} (d:-4000000000000000000<=x/\x<=4000000000000000000) (b:0<y):Gm F x y=some (x/y):=by
 obtain ⟨h,hb⟩:=Xe d b;have f:=Int.tmod_add_mul_tdiv x y;have g:x.tdiv y*y=y*x.tdiv y:=Int.mul_comm ..;have i:=Int.tmod_lt_of_pos x b;have e:x.natAbs.mod y.natAbs<=x.natAbs:=Nat.mod_le _ _;have j:(x.tmod y).natAbs<=x.natAbs:=by rw [Int.natAbs_tmod];exact e
 unfold Gm;rw [h,sb,ckb (by omega),S7 x y b]
 by_cases c:x.tmod y<0
 ·rw [if_pos c,B9 (by simp;omega),ckb (by omega)]
 ·rw [if_neg c,Au (by simp;omega)]
theorem X2 {x:Int} (c:-4000000000000000000<=x/\x<=4000000000000000000) (b:0<y):-4000000000000000001<=x/y/\x/y<=4000000000000000000:=by
 have:=(Xe c b).2;rw [S7 x y b]
 split<;>omega
theorem Ew {x:Int} (b:-4000000000000000001<=x/\x<=4000000000000000001):IntKind.i64.wrap (0-x)=-x:=by
 rw [Go.Eng.wrap64 (by omega)];omega
theorem Pg (F:Nat) {x:Int} (c:-4000000000000000000<=x/\x<=4000000000000000000) (b:0<y):Kf F x y=some (-(-x/y)):=by
 have:=X2 (x:=-x) (y:=y) (by omega) b;unfold Kf;rw [Ew (by omega),Ko F (by omega) b,sb,Ew (by omega)]
def A1s (t:pulse_Train) (w:Int):Int×Int :=
 if Ms t≠0 then (0,Ms t) else if w=0 then (t.First,0) else if w=1/\t.Kind≠1 then (t.Second,0) else (0,2)
theorem Wq (h:Ms t=0):Ra t=true:=by
 unfold Ms at h
 split at h
 ·cases h
 ·split at h
  ·assumption
  ·cases h
theorem A0b (F:Nat) (t:pulse_Train) (w:Int):Gw F (pt t) w=some (A1s t w):=by
 unfold Gw A1s;rw [Qr,sb]
 by_cases h:Ms t=0
 ·have b:=Wq h;unfold Ra at b;simp only [decide_eq_true_eq] at b;simp only [h,A9,pt];have f:t.First≠0:=by omega
  by_cases h0:w=0
  ·subst h0;simp [f,cond_eq_ite]
  ·by_cases c:w=1
   ·subst c
    by_cases d:t.Kind=1
    ·have:t.Second=0:=by omega
     simp [d,this,cond_eq_ite]
    ·have:t.Second≠0:=by omega
     simp [d,this,cond_eq_ite]
   ·have e:(bif decide (0<=w) then decide (w<=1) else false)=false:=by simp [cond_eq_ite];omega
    rw [e];simp [h0,c,cond_eq_ite]
 ·rw [B9 (by simpa using h),if_pos h]
def us (t:pulse_Train) (w:Int):Int:=if w=0 then t.First else t.Second
def spd (t:pulse_Train) (w:Int) (s:api_Span) (k:Int):api_Span :=
 ⟨500*t.Lambda*(s.Lo+k*65536)/(65536*us t w),-(-(500*t.Lambda*(s.Hi+k*65536))/(65536*us t w))⟩
def hasT (t:pulse_Train) (w:Int):Prop:=Ms t=0/\(w=0\/(w=1/\t.Kind≠1))
theorem hasT.time (h:hasT t w):A1s t w=(us t w,0)/\200<=us t w/\us t w<=5000/\10000<=t.Lambda/\t.Lambda<=1000000:=by
 obtain ⟨c,b⟩:=h;have d:=Wq c;unfold Ra at d;simp only [decide_eq_true_eq] at d;unfold A1s us;rw [if_neg (by simpa using c)];rcases b with rfl|⟨rfl,b⟩
 ·simp;omega
 ·simp [b];omega
theorem A1n {L p:Int} (c:10000<=L/\L<=1000000) (b:-5000000<=p/\p<=5000000):-4000000000000000000<=500*L*p/\500*L*p<=4000000000000000000:=by
 have d:500*L*p<=500*L*5000000:=Int.mul_le_mul_of_nonneg_left b.2 (by omega);have e:500*L*(-5000000)<=500*L*p:=Int.mul_le_mul_of_nonneg_left b.1 (by omega);omega
theorem U6 (F:Nat) {k:Int} {s:api_Span} (h:hasT t w) (c:inB s (-131072) 131072=true) (e:-64<=k/\k<=64):Kt F (pt t) w s k=some (spd t w s k,0):=by
 obtain ⟨f,g,i,d⟩:=h.time;have b:=c;unfold inB at b;simp only [decide_eq_true_eq] at b;have b1:=A1n (p:=s.Lo+k*65536) d (by omega);have b2:=A1n (p:=s.Hi+k*65536) d (by omega);have j:A9 k (-64) 64=true:=by unfold A9;simp [e]
 unfold Kt;rw [A0b,sb,f];simp only [Wf,c,j];refine Eq.trans (Au rfl) (Eq.trans (Au rfl) ?_);unfold Hj Hk;simp only [pt];rw [ckb (by omega),ckb (by omega),ckb (by omega),ckb (by omega),ckb (by omega),Ko F (by omega) (by omega),sb,sb,ckb (by omega),ckb (by omega),ckb (by omega),ckb (by omega),ckb (by omega),Pg F (by omega) (by omega),sb,sb];rfl
def Ka (a b:api_Span):api_Span:=⟨if b.Lo>a.Lo then b.Lo else a.Lo,if b.Hi<a.Hi then b.Hi else a.Hi⟩
theorem Qj (a b:api_Span):A6 a b=(Ka a b,decide ((Ka a b).Lo<=(Ka a b).Hi)):=rfl
def stepOf (x:api_Echo) (w:Int):api_Span:=if w=0 then x.Steps.1 else x.Steps.2
def spw (t:pulse_Train) (x:api_Echo) (m:Int) (w k:Int):api_Span:=Ka (spd t w (stepOf x w) k) ⟨-m,m⟩
def isw (t:pulse_Train) (x:api_Echo) (m:Int) (w k:Int):Bool:=decide ((spw t x m w k).Lo<=(spw t x m w k).Hi)
theorem Xw (h:echoE x=0) (c:x.Kind=3) (w:Int):inB (stepOf x w) (-131072) 131072=true:=by
 unfold echoE at h;rw [if_neg (by omega)] at h;have b:To x=true:=by
  split at h
  ·assumption
  ·cases h
 unfold To at b;rw [if_neg (by omega),if_neg (by omega)] at b;simp only [Bool.and_eq_true] at b;unfold turnB inB stepOf at *;simp only [decide_eq_true_eq] at *
 split<;>omega
def kr:Nat->Int->List Int
 | 0,_=>[]
 | n+1,x=>x::kr n (x+1)
theorem A8q:∀{n:Nat} {x y:Int},y∈kr n x->x<=y/\y<x+n:=by
 intro n
 induction n with
 | zero=>intro x y h;cases h
 | succ n ih =>
  intro x y h;rcases List.mem_cons.1 h with rfl|h
  ·omega
  ·have:=ih h;omega
theorem A8p:∀(n:Nat) (x:Int),(kr n x).length=n:=by
 intro n
 induction n with
 | zero=>intro x;rfl
 | succ n ih=>intro x;simp [kr,ih]
section
variable {m:Int}
def og (t:pulse_Train) (x:api_Echo) (m w k:Int):Option fold_option:=if isw t x m w k=true then some ⟨k,spw t x m w k⟩ else none
theorem A5b {σ:Type} (F:Nat) (body:σ->fold_option->Option (σ×Bool)) (k1:Int->σ->Option (σ×Bool)) (h:hasT t w) (c:∀w,inB (stepOf x w) (-131072) 131072=true) (g:1<=m/\m<=200000) {k:Int} (b:-64<=k/\k<=64) (s:σ) :
  Cz F body (pt t) w x m k1 k s=bif isw t x m w k then (body s ⟨k,spw t x m w k⟩).bind (λq=>bif q.2 then k1 (k+1) q.1 else some (q.1,false)) else k1 (k+1) s:=by
 have d:IntKind.i64.wrap (0-m)=-m:=Ew (by omega);have e:∀{β:Type} (f:Int->Option β),(ck (k+1)).bind f=f (k+1):=λf=>ckb (by omega);unfold Cz;rw [B9 (by simpa using b.2)];rcases h.2 with rfl|⟨rfl,i⟩
 ·refine Eq.trans (B9 rfl) ?_;rw [T4,show x.Steps.1=stepOf x 0 from rfl,U6 F h (c 0) b,sb,d];simp only [e];rfl
 ·refine Eq.trans (Au rfl) (Eq.trans (B9 rfl) ?_);rw [T4,show x.Steps.2=stepOf x 1 from rfl,U6 F h (c 1) b,sb,d];simp only [e];rfl
theorem A9t (l:List fold_option) (o:fold_option) (h:l.length<=1000):Ei (l,0) o=some ((l++[o],0),true):=by
 unfold Ei;rw [Ky (by simp;omega)]
theorem A5a (F:Nat) (h:hasT t w) (d:∀w,inB (stepOf x w) (-131072) 131072=true) (e:1<=m/\m<=200000):∀(n:Nat) (N:Nat) (k:Int) (l:List fold_option),k+n=65->-64<=k->n<N->l.length+n<=1000 ->
  Dg F Ei (pt t) w x m N k (l,0)=some ((l++(kr n k).filterMap (og t x m w),0),true):=by
 intro n
 induction n with
 | zero =>
  intro N k l f b g i;obtain ⟨N,rfl⟩:∃N',N=N'+1:=⟨N-1,by omega⟩;show Cz F Ei (pt t) w x m (Dg F Ei (pt t) w x m N) k (l,0)=_;unfold Cz;rw [Au (by simp;omega)];simp [kr]
 | succ n ih =>
  intro N k l f b g i;obtain ⟨N,rfl⟩:∃N',N=N'+1:=⟨N-1,by omega⟩;show Cz F Ei (pt t) w x m (Dg F Ei (pt t) w x m N) k (l,0)=_;rw [A5b F _ _ h d e (by omega)]
  cases c:isw t x m w k with
  | true =>
   rw [cond_true,A9t l _ (by omega),sb];refine Eq.trans (B9 rfl) ?_;rw [ih N (k+1) _ (by omega) (by omega) (by omega) (by simp;omega)];simp [kr,og,c]
  | false =>
   rw [cond_false,ih N (k+1) _ (by omega) (by omega) (by omega) (by omega)];simp [kr,og,c]
def Nc (t:pulse_Train) (x:api_Echo) (m w:Int):List fold_option:=(kr 129 (-64)).filterMap (og t x m w)
theorem Pb:(Nc t x m w).length<=129:=by
 have:=List.length_filterMap_le (og t x m w) (kr 129 (-64));rw [A8p] at this;exact this
theorem A57 {k:Int} {o:fold_option} (h:og t x m w k=some o):o.whole=k:=by
 unfold og at h
 split at h
 ·cases h;rfl
 ·cases h
theorem A98 {l:List Int} {o:fold_option} (h:o∈l.filterMap (og t x m w)):o.whole∈l:=by
 obtain ⟨k,b,ho⟩:=List.mem_filterMap.1 h;rw [A57 ho];exact b
theorem A07:Nc t x m w=(og t x m w (-64)).toList++(kr 127 (-63)).filterMap (og t x m w)++(og t x m w 64).toList:=by
 unfold Nc;rw [show kr 129 (-64)=[-64]++kr 127 (-63)++[64] from by kernel_rfl,List.filterMap_append,List.filterMap_append]
 cases h:og t x m w (-64)<;>cases b:og t x m w 64<;>simp [h,b]
theorem A1d (F:Nat) (hF:200<=F) (h:hasT t w) (hs:∀w,inB (stepOf x w) (-131072) 131072=true) (hm:1<=m/\m<=200000) :
  Mz F (pt t) x w m=some (if isw t x m w (-64)=true\/isw t x m w 64=true then ([],false) else (Nc t x m w,true)):=by
 unfold Mz;rw [Qg];unfold L8;rw [A5a F h hs hm 129 F (-64) [] (by omega) (by omega) (by omega) (by simp),sb];refine Eq.trans (B9 rfl) ?_;simp only [List.nil_append];rw [show (kr 129 (-64)).filterMap (og t x m w)=Nc t x m w from rfl];have y:=Pb (t:=t) (x:=x) (m:=m) (w:=w);have f:∀o∈(kr 127 (-63)).filterMap (og t x m w),-63<=o.whole/\o.whole<=63:=λo ho=>by
  have:=A8q (A98 ho);omega
 have b:=A07 (t:=t) (x:=x) (m:=m) (w:=w);generalize Nc t x m w=L at *;generalize (kr 127 (-63)).filterMap (og t x m w)=M at *
 cases z:isw t x m w (-64) with
 | true =>
  have e1:og t x m w (-64)=some ⟨-64,spw t x m w (-64)⟩:=by unfold og;rw [if_pos z]
  rw [e1] at b;have d:L=⟨-64,spw t x m w (-64)⟩::(M++(og t x m w 64).toList):=by rw [b];rfl
  have c:decide ((L.length:Int)>0)=true:=by rw [d];simp;omega
  have e:0<L.length:=by rw [d];simp
  have n:L.getD (0:Int).toNat default=⟨-64,spw t x m w (-64)⟩:=by rw [d];rfl
  simp only [c];have p:((L.getD (0:Int).toNat default).whole == -64)=true:=by rw [n];rfl
  rw [gdT (g:=true==true&&true) rfl,Ev default (by omega),p,gdF (g:=true==false&&(true==true&&true)) rfl,sb,gdF (g:=true==false&&(true==true&&true)) rfl,sb,if_pos (Or.inl trivial)];rfl
 | false =>
  have e1:og t x m w (-64)=none:=by unfold og;rw [if_neg (by simp [z])]
  rw [e1] at b;simp only [Option.toList,List.nil_append] at b
  cases h2:isw t x m w 64 with
  | true =>
   have e2:og t x m w 64=some ⟨64,spw t x m w 64⟩:=by unfold og;rw [if_pos h2]
   rw [e2] at b;simp only at b;have e:0<L.length:=by rw [b];simp
   obtain ⟨u,n,j⟩:∃u,L.getD 0 default=u/\u∈L:=⟨_,rfl,by rw [List.getD_eq_getElem?_getD,List.getElem?_eq_getElem e];exact List.getElem_mem e⟩;have q:u.whole≠-64:=by
    rw [b] at j;rcases List.mem_append.1 j with h|h
    ·have:=f _ h;omega
    ·simp at h;rw [h];simp
   have c:decide ((L.length:Int)>0)=true:=by simp;omega
   have r:L.getD (0:Int).toNat default=u:=n;have k:(u.whole == -64)=false:=by simpa using q
   simp only [c];rw [gdT (g:=true==true&&true) rfl,Ev default (by omega),r,k,gdT (g:=false==false&&(true==true&&true)) rfl,ckb (by omega),gdT (g:=false==false&&(true==true&&true)) rfl,Ev default (by omega),if_pos (Or.inr trivial)];refine Eq.trans (B9 ?_) rfl;refine Eq.trans (B9 rfl) (Eq.trans (Au rfl) ?_);have e3:((L.length:Int)-1).toNat=M.length:=by rw [b];simp
   rw [e3,b];simp [List.getD_eq_getElem?_getD]
  | false =>
   have e2:og t x m w 64=none:=by unfold og;rw [if_neg (by simp [h2])]
   rw [e2] at b;simp only [List.append_nil] at b;subst b;rw [if_neg (by simp)]
   by_cases e:0<L.length
   ·have l:∀i,i<L.length->(L.getD i default).whole≠-64/\(L.getD i default).whole≠64:=λi hi=>by
     have:L.getD i default∈L:=by rw [List.getD_eq_getElem?_getD,List.getElem?_eq_getElem hi];exact List.getElem_mem hi
     have:=f _ this;omega
    have ha:=(l 0 e).1;have hb:=(l (L.length-1) (by omega)).2;have c:decide ((L.length:Int)>0)=true:=by simp;omega
    have s:((L.getD (0:Int).toNat default).whole == -64)=false:=by simpa using ha
    have v:((L.getD (L.length-1) default).whole==64)=false:=by simpa using hb
    have e3:((L.length:Int)-1).toNat=L.length-1:=by omega
    simp only [c];rw [gdT (g:=true==true&&true) rfl,Ev default (by omega),s,gdT (g:=false==false&&(true==true&&true)) rfl,ckb (by omega),gdT (g:=false==false&&(true==true&&true)) rfl,Ev default (by omega),e3,v];rfl
   ·have:L=[]:=List.length_eq_zero_iff.1 (by omega);subst this;rfl
end
def Ml (s:api_Span):Bool:=decide (s.Lo<=s.Hi)
def gg (u s:fold_option):Option fold_Guess:=if Ml (Ka u.speed s.speed)=true then some ⟨(u.whole,s.whole),Ka u.speed s.speed⟩ else none
theorem D9 {l:List α} (h:i<l.length) (d:α):l.drop i=l.getD i d::l.drop (i+1):=by
 rw [List.drop_eq_getElem_cons h,List.getD_eq_getElem?_getD,List.getElem?_eq_getElem h];rfl
theorem A59 (y4:List fold_option×Bool) (c:y4.1.length<=1000):∀(n N i:Nat) (acc:List fold_Guess),i+n=y4.1.length->n<N->acc.length+n<=1000000 ->
  E3 y4 N acc (i:Int)=some (acc++(y4.1.drop i).map (λf=>⟨(f.whole,0),f.speed⟩),true):=by
 intro n
 induction n with
 | zero =>
  intro N i acc hi d b;obtain ⟨N,rfl⟩:∃N',N=N'+1:=⟨N-1,by omega⟩;show F5 y4 (E3 y4 N) acc (i:Int)=_;unfold F5;rw [Au (by simp;omega),List.drop_eq_nil_of_le (by omega)];simp [Kk]
 | succ n ih =>
  intro N i acc hi d b;obtain ⟨N,rfl⟩:∃N',N=N'+1:=⟨N-1,by omega⟩;show F5 y4 (E3 y4 N) acc (i:Int)=_;unfold F5;rw [B9 (by simp;omega),Ev default (by omega),Int.toNat_natCast,Ky (by simp;omega),ckb (by omega)];have:=ih N (i+1) (acc++[⟨((y4.1.getD i default).whole,0),(y4.1.getD i default).speed⟩]) (by omega) (by omega) (by simp;omega);rw [Int.natCast_add] at this;refine Eq.trans this ?_;rw [D9 (i:=i) (by omega) default];simp
theorem A37 (y72:List fold_option×Bool) (f:y72.1.length<=1000) (x8:Int) (k3:List fold_Guess->Int->Option (List fold_Guess×Bool)) (u:fold_option):∀(n N i:Nat) (acc:List fold_Guess),i+n=y72.1.length->n<N->acc.length+n<=1000000 ->
  D4 y72 x8 k3 u N acc (i:Int)=Hp x8 k3 (acc++(y72.1.drop i).filterMap (gg u)):=by
 intro n
 induction n with
 | zero =>
  intro N i acc hi e b;obtain ⟨N,rfl⟩:∃N',N=N'+1:=⟨N-1,by omega⟩;show F4 y72 x8 k3 u (D4 y72 x8 k3 u N) acc (i:Int)=_;unfold F4;rw [Au (by simp;omega),List.drop_eq_nil_of_le (by omega)];simp
 | succ n ih =>
  intro N i acc hi e b;obtain ⟨N,rfl⟩:∃N',N=N'+1:=⟨N-1,by omega⟩;show F4 y72 x8 k3 u (D4 y72 x8 k3 u N) acc (i:Int)=_;unfold F4;rw [B9 (by simp;omega),Ev default (by omega),Int.toNat_natCast,Qj];unfold Hq;rw [D9 (i:=i) (by omega) default];generalize y72.1.getD i default=v;have d:∀(l:List fold_Guess),(ck ((i:Int)+1)).bind (λx934=>D4 y72 x8 k3 u N l x934)=D4 y72 x8 k3 u N l ((i:Int)+1):=λl=>ckb (by omega);simp only [d]
  cases c:Ml (Ka u.speed v.speed) with
  | true =>
   refine Eq.trans (B9 c) ?_;rw [Ky (by simp;omega)];have:=ih N (i+1) (acc++[⟨(u.whole,v.whole),Ka u.speed v.speed⟩]) (by omega) (by omega) (by simp;omega);rw [Int.natCast_add] at this;refine Eq.trans this ?_;simp [gg,c]
  | false =>
   refine Eq.trans (Au c) ?_;have:=ih N (i+1) acc (by omega) (by omega) (by omega);rw [Int.natCast_add] at this;refine Eq.trans this ?_;simp [gg,c]
theorem A5w (F:Nat) (j:2000<=F) (y4 y72:List fold_option×Bool) (d:y4.1.length<=200) (e:y72.1.length<=200):∀(n N i:Nat) (acc:List fold_Guess),i+n=y4.1.length->n<N->acc.length+n*200<=100000 ->
  D3 F y4 y72 N acc (i:Int)=some (acc++(y4.1.drop i).flatMap (λu=>y72.1.filterMap (gg u)),y72.2):=by
 intro n
 induction n with
 | zero =>
  intro N i acc hi f b;obtain ⟨N,rfl⟩:∃N',N=N'+1:=⟨N-1,by omega⟩;show F3 F y4 y72 (D3 F y4 y72 N) acc (i:Int)=_;unfold F3;rw [Au (by simp;omega),List.drop_eq_nil_of_le (by omega)];simp [Kj]
 | succ n ih =>
  intro N i acc hi f b;obtain ⟨N,rfl⟩:∃N',N=N'+1:=⟨N-1,by omega⟩;show F3 F y4 y72 (D3 F y4 y72 N) acc (i:Int)=_;unfold F3;rw [B9 (by simp;omega),Ev default (by omega),Int.toNat_natCast];rw [D9 (i:=i) (by omega) default];generalize y4.1.getD i default=u;have g:=A37 y72 (by omega) (i:Int) (D3 F y4 y72 N) u y72.1.length F 0 acc (by omega) (by omega) (by omega);refine Eq.trans g ?_;unfold Hp;rw [ckb (by omega),List.drop_zero];have c:=List.length_filterMap_le (gg u) y72.1;have:=ih N (i+1) (acc++y72.1.filterMap (gg u)) (by omega) (by omega) (by simp;omega);rw [Int.natCast_add] at this;refine Eq.trans this ?_;simp
section
variable {m:Int}
end
section
variable {m:Int}
theorem A5g:(((Nc t x m 0).flatMap (λu=>(Nc t x m 1).filterMap (gg u)))).length<=129*129:=by
 have b:=Pb (t:=t) (x:=x) (m:=m) (w:=0);have c:=Pb (t:=t) (x:=x) (m:=m) (w:=1);generalize Nc t x m 0=L0 at *;generalize Nc t x m 1=L1 at *;have:(L0.flatMap (λu=>L1.filterMap (gg u))).length<=L0.length*129:=by
  clear b
  induction L0 with
  | nil=>simp
  | cons a l ih =>
   have:=List.length_filterMap_le (gg a) L1;simp [Nat.add_mul] at ih ⊢;omega
 omega
def A3m (t:pulse_Train) (x:api_Echo) (m w:Int):Prop:=isw t x m w (-64)=true\/isw t x m w 64=true
instance (w:Int):Decidable (A3m t x m w):=by unfold A3m;infer_instance
end
theorem A30 (F:Nat) (l:List api_Span) (hb:∀s∈l,spB s) (d:l.length<4611686018427387904):∃l',G4 F l=some l'/\l'.Perm l/\l'.Pairwise (λx y=>x.Lo<=y.Lo):=by
 unfold G4;rw [dif_pos ⟨hb,d⟩];have b:∀x y:{s:api_Span // spB s},Go.Proofs.ltOf Lm x y=decide (x.val.Lo<y.val.Lo):=by
  intro x y;unfold Go.Proofs.ltOf Lm
  congr 1
  simp only [eq_iff_iff];omega
 have e:Go.Sort.SWO (Go.Proofs.ltOf Lm):=by
  constructor
  ·intro x;rw [b];simp
  ·intro x y z f c;rw [b] at *;simp at *;omega
  ·intro x y z f c;rw [b] at *;simp at *;omega
 obtain ⟨_,c,g⟩:=U8 Lm e (l.pmap Subtype.mk hb);refine ⟨_,rfl,?_,?_⟩
 ·have:=c.map Subtype.val;refine this.trans ?_;rw [List.map_pmap];simp
 ·rw [List.pairwise_map];refine g.imp ?_;intro x y h;rw [b] at h
  simpa using h
def mg:api_Span->List api_Span->List api_Span
 | c,[]=>[c]
 | c,x::xs=>if x.Lo<=c.Hi then mg ⟨c.Lo,if x.Hi>c.Hi then x.Hi else c.Hi⟩ xs else c::mg x xs
def Ql:List api_Span->List api_Span
 | []=>[]
 | x::xs=>mg x xs
def closed (l:List api_Span) (H:Int):Prop:=∀x∈l,x.Lo<=H->x.Hi<=H
theorem Ze (y:List api_Span):∀(n N i:Nat) (pre:List api_Span) (c:api_Span),i+n=y.length->n<N->pre.length+n<=8000000000000->y.length<=8000000000000 ->
  Bi y N (i:Int) (pre++[c])=some (pre++mg c (y.drop i)):=by
 intro n
 induction n with
 | zero =>
  intro N i pre c hi o p m;obtain ⟨N,rfl⟩:∃N',N=N'+1:=⟨N-1,by omega⟩;show By y (Bi y N) (i:Int) (pre++[c])=_;unfold By;rw [Au (by simp;omega),List.drop_eq_nil_of_le (by omega)];rfl
 | succ n ih =>
  intro N i pre c hi o p m;obtain ⟨N,rfl⟩:∃N',N=N'+1:=⟨N-1,by omega⟩;show By y (Bi y N) (i:Int) (pre++[c])=_;unfold By;rw [D9 (i:=i) (by omega) default];rw [B9 (by simp;omega),Ev default (by omega),Int.toNat_natCast];generalize y.getD i default=x;have b:(pre++[c]).length=pre.length+1:=by simp
  have e:decide ((((pre++[c]).length:Nat):Int)>0)=true:=by rw [b];simp
  have f:((((pre++[c]).length:Nat):Int)-1)=(pre.length:Nat):=by rw [b];omega
  have d:(pre++[c]).getD pre.length default=c:=by simp [List.getD_eq_getElem?_getD]
  simp only [e];rw [gdT (g:=true==true&&true) rfl,ckb (by rw [b];omega),gdT (g:=true==true&&true) rfl,f,Ev default (by rw [b];omega),Int.toNat_natCast,d];unfold D0;have j:∀(l:List api_Span),(ck ((i:Int)+1)).bind (λx179=>Bi y N x179 l)=Bi y N (((i+1:Nat):Int)) l:=λl=>by rw [ckb (by omega),Int.natCast_add];rfl
  by_cases h:x.Lo<=c.Hi
  ·refine Eq.trans (B9 (by simpa using h)) ?_;rw [ckb (by omega),ckb (by omega),Ev default (by rw [b];omega),Ev default (by rw [b];omega),Int.toNat_natCast,d];unfold J5;rw [if_pos (by rw [b];omega),sb,Int.toNat_natCast,j];have k:(pre++[c]).set pre.length ⟨c.Lo,if x.Hi>c.Hi then x.Hi else c.Hi⟩=pre++[⟨c.Lo,if x.Hi>c.Hi then x.Hi else c.Hi⟩]:=by simp
   rw [k,ih N (i+1) _ _ (by omega) (by omega) (by omega) (by omega)]
   conv=>rhs;unfold mg
   rw [if_pos h]
  ·refine Eq.trans (Au (by simpa using h)) ?_;rw [Ky (by rw [b];simp;omega),j,ih N (i+1) (pre++[c]) x (by omega) (by omega) (by rw [b];omega) (by omega)]
   conv=>rhs;unfold mg
   rw [if_neg h];simp
theorem Vw (F:Nat) (y:List api_Span) (c:y.length<F) (d:y.length<=1000000000000):Bi y F 0 []=some (Ql y):=by
 obtain ⟨N,rfl⟩:∃N',F=N'+1:=⟨F-1,by omega⟩;show By y (Bi y N) 0 []=_;unfold By
 cases y with
 | nil=>rfl
 | cons x xs =>
  have b:decide (((([]:List api_Span).length:Nat):Int)>0)=false:=rfl;rw [B9 (by simp),Ev default (by simp)];simp only [b];rw [gdF (g:=false==true&&true) rfl,sb,gdF (g:=false==true&&true) rfl,sb];refine Eq.trans (Au rfl) ?_;rw [Ky (by simp)];unfold D0;rw [ckb (by omega)];have:=Ze (x::xs) xs.length N 1 [] x (by simp;omega) (by simp at c;omega) (by simp at d ⊢;omega) (by omega);exact this
theorem A3a (F:Nat) (l:List api_Span) (f:l.length<F) (g:l.length<=1000000000000) (hb:∀s∈l,spB s):∃l',Cl F l=some (Ql l')/\l'.Perm l/\l'.Pairwise (λx y=>x.Lo<=y.Lo):=by
 obtain ⟨l',d,b,e⟩:=A30 F l hb (by omega);refine ⟨l',?_,b,e⟩;unfold Cl C0;have c:=b.length_eq;rw [Ky (by simp;omega),sb,List.nil_append,d,sb,Vw F l' (by omega) (by omega)]
section
variable {out left:List api_Span} {k2:List api_Span->List api_Span->Option (List api_Span)}
def pass:Int->Bool->List api_Span->Int×Bool
 | H,c,[]=>(H,c)
 | H,c,x::xs=>if x.Lo<=H/\x.Hi>H then pass x.Hi true xs else pass H c xs
end
theorem A8w:∀(xs:List api_Span) (c:api_Span),(mg c xs).length<=xs.length+1:=by
 intro xs
 induction xs with
 | nil=>intro c;simp [mg]
 | cons x xs ih =>
  intro c;unfold mg
  split
  ·have:=ih ⟨c.Lo,if x.Hi>c.Hi then x.Hi else c.Hi⟩;rw [List.length_cons];omega
  ·have:=ih x;simp;omega
theorem A06 (l:List api_Span):(Ql l).length<=l.length:=by
 cases l with
 | nil=>simp [Ql]
 | cons x xs=>exact A8w xs x
def inS (z:Int) (s:api_Span):Prop:=2*s.Lo<=z/\z<=2*s.Hi
def mem (z:Int) (l:List api_Span):Prop:=∃s∈l,inS z s
def valid (l:List api_Span):Prop:=∀s∈l,s.Lo<=s.Hi
def Canon (l:List api_Span):Prop:=l.Pairwise (λa b=>a.Hi<b.Lo)/\valid l
theorem Mw (z:Int):¬mem z []:=by rintro ⟨s,b,_⟩;cases b
theorem mem_cons {s:api_Span} :mem z (s::l)↔inS z s\/mem z l:=by
 constructor
 ·rintro ⟨t,b,h⟩;rcases List.mem_cons.1 b with rfl|b
  ·exact .inl h
  ·exact .inr ⟨t,b,h⟩
 ·rintro (h|⟨t,b,h⟩)
  ·exact ⟨s,by simp,h⟩
  ·exact ⟨t,by simp [b],h⟩
theorem Canon.tail {s:api_Span} (h:Canon (s::l)):Canon l:=⟨(List.pairwise_cons.1 h.1).2,λt b=>h.2 t (by simp [b])⟩
theorem Canon.beyond {s:api_Span} (h:Canon (s::l)) (b:mem z l):2*s.Hi+2<=z:=by
 obtain ⟨t,c,d,_⟩:=b;have:=(List.pairwise_cons.1 h.1).1 t c;omega
theorem Sb:∀{a b:List api_Span},Canon a->Canon b->(∀z,mem z a↔mem z b)->a=b:=by
 intro a
 induction a with
 | nil =>
  intro b _ hb h
  cases b with
  | nil=>rfl
  | cons t b =>
   have i:=hb.2 t (by simp);exact absurd ((h (2*t.Lo)).2 (mem_cons.2 (.inl ⟨by omega,by omega⟩))) (Mw _)
 | cons s a ih =>
  intro b e hb h;have j:=e.2 s (by simp)
  cases b with
  | nil=>exact absurd ((h (2*s.Lo)).1 (mem_cons.2 (.inl ⟨by omega,by omega⟩))) (Mw _)
  | cons t b =>
   have k:=hb.2 t (by simp);have e1:s.Lo=t.Lo:=by
    have c:2*t.Lo<=2*s.Lo:=by
     rcases mem_cons.1 ((h (2*s.Lo)).1 (mem_cons.2 (.inl ⟨by omega,by omega⟩))) with c|c
     ·exact c.1
     ·have:=hb.beyond c;omega
    have l:2*s.Lo<=2*t.Lo:=by
     rcases mem_cons.1 ((h (2*t.Lo)).2 (mem_cons.2 (.inl ⟨by omega,by omega⟩))) with c|c
     ·exact c.1
     ·have:=e.beyond c;omega
    omega
   have e2:s.Hi=t.Hi:=by
    rcases Int.lt_trichotomy s.Hi t.Hi with d|d|d
    ·rcases mem_cons.1 ((h (2*s.Hi+1)).2 (mem_cons.2 (.inl ⟨by omega,by omega⟩))) with c|c
     ·have:=c.2;omega
     ·have:=e.beyond c;omega
    ·exact d
    ·rcases mem_cons.1 ((h (2*t.Hi+1)).1 (mem_cons.2 (.inl ⟨by omega,by omega⟩))) with c|c
     ·have:=c.2;omega
     ·have:=hb.beyond c;omega
   have e3:s=t:=by cases s;cases t;simp_all
   subst e3;rw [ih e.tail hb.tail];intro z;constructor
   ·intro f;have g:=e.beyond f;rcases mem_cons.1 ((h z).1 (mem_cons.2 (.inr f))) with c|c
    ·have:=c.2;omega
    ·exact c
   ·intro f;have g:=hb.beyond f;rcases mem_cons.1 ((h z).2 (mem_cons.2 (.inr f))) with c|c
    ·have:=c.2;omega
    ·exact c
theorem A8x:∀(xs:List api_Span) (c:api_Span),c.Lo<=c.Hi->xs.Pairwise (λx y=>x.Lo<=y.Lo)->(∀x∈xs,c.Lo<=x.Lo)->valid xs ->
  (∀z,mem z (mg c xs)↔inS z c\/mem z xs)/\Canon (mg c xs)/\∀s∈mg c xs,c.Lo<=s.Lo:=by
 intro xs
 induction xs with
 | nil =>
  intro c g _ _ _;refine ⟨λz=>mem_cons,⟨by simp [mg],λs b=>?_⟩,λs b=>?_⟩<;>simp [mg] at b<;>subst b
  ·exact g
  ·exact Int.le_refl _
 | cons x xs ih =>
  intro c g b k i;have l:=i x (by simp);have m:=k x (by simp);rw [List.pairwise_cons] at b;unfold mg
  by_cases h:x.Lo<=c.Hi
  ·rw [if_pos h];obtain ⟨j,e,f⟩:=ih ⟨c.Lo,if x.Hi>c.Hi then x.Hi else c.Hi⟩ (by simp only;split<;>omega) b.2 (λy d=>k y (by simp [d])) (λy d=>i y (by simp [d]));refine ⟨λz=>?_,e,f⟩;rw [j z,mem_cons];have:inS z ⟨c.Lo,if x.Hi>c.Hi then x.Hi else c.Hi⟩↔inS z c\/inS z x:=by
    unfold inS;simp only
    split<;>omega
   rw [this,or_assoc]
  ·rw [if_neg h];obtain ⟨j,e,f⟩:=ih x l b.2 b.1 (λy d=>i y (by simp [d]));refine ⟨λz=>?_,⟨List.pairwise_cons.2 ⟨λy d=>?_,e.1⟩,λs b=>?_⟩,λs b=>?_⟩
   ·rw [mem_cons,j z,mem_cons]
   ·have:=f y d;omega
   ·rcases List.mem_cons.1 b with rfl|b
    ·exact g
    ·exact e.2 s b
   ·rcases List.mem_cons.1 b with rfl|b
    ·exact Int.le_refl _
    ·have:=f s b;omega
theorem Rw (b:l.Pairwise (λx y=>x.Lo<=y.Lo)) (c:valid l):(∀z,mem z (Ql l)↔mem z l)/\Canon (Ql l):=by
 cases l with
 | nil=>exact ⟨λz=>Iff.rfl,⟨List.Pairwise.nil,λs b=>by cases b⟩⟩
 | cons x xs =>
  rw [List.pairwise_cons] at b;obtain ⟨d,e,_⟩:=A8x xs x (c x (by simp)) b.2 b.1 (λy f=>c y (by simp [f]));exact ⟨λz=>(d z).trans mem_cons.symm,e⟩
def un (l:List api_Span):List api_Span:=Ql (l.mergeSort (λx y=>decide (x.Lo<=y.Lo)))
theorem U9 (l:List api_Span):(l.mergeSort (λx y=>decide (x.Lo<=y.Lo))).Pairwise (λx y=>x.Lo<=y.Lo):=by
 have:=List.pairwise_mergeSort (le:=λx y:api_Span=>decide (x.Lo<=y.Lo)) (λa b c d e=>by simp at *;omega) (λa b=>by simp;omega) l;exact this.imp (λh=>by simpa using h)
theorem Yq (h:a.Perm b) (z:Int):mem z a↔mem z b:=by
 constructor
 ·rintro ⟨s,c,d⟩;exact ⟨s,h.mem_iff.1 c,d⟩
 ·rintro ⟨s,c,d⟩;exact ⟨s,h.mem_iff.2 c,d⟩
theorem S1 (h:a.Perm b) (c:valid b):valid a:=λs d=>c s (h.mem_iff.1 d)
theorem Tw (c:valid l) (z:Int):mem z (un l)↔mem z l:=by
 have b:=List.mergeSort_perm l (λx y=>decide (x.Lo<=y.Lo));exact ((Rw (U9 l) (S1 b c)).1 z).trans (Yq b z)
theorem Pf (b:valid l):Canon (un l):=(Rw (U9 l) (S1 (List.mergeSort_perm l _) b)).2
theorem A38 {σ:List api_Span} (c:σ.Perm l) (d:σ.Pairwise (λx y=>x.Lo<=y.Lo)) (b:valid l):Ql σ=un l:=by
 obtain ⟨e,f⟩:=Rw d (S1 c b);exact Sb f (Pf b) λz=>(e z).trans ((Yq c z).trans (Tw b z).symm)
def M4 (B:Int) (l:List api_Span):Prop:=∀s∈l,-B<=s.Lo/\s.Hi<=B
theorem Mf {B:Int} (c:valid l) (h:∀z,mem z l->-2*B<=z/\z<=2*B):M4 B l:=by
 intro s b;have d:=c s b;have e:=h (2*s.Lo) ⟨s,b,by unfold inS;omega⟩;have f:=h (2*s.Hi) ⟨s,b,by unfold inS;omega⟩;omega
theorem Na {B:Int} (h:M4 B l) (b:mem z l):-2*B<=z/\z<=2*B:=by
 obtain ⟨s,c,d,e⟩:=b;have:=h s c;omega
theorem A22:∀{l:List api_Span} {lo hi:Int},Canon l->(∀s∈l,lo<=s.Lo/\s.Hi<=hi)->lo<=hi+1->(l.length:Int)<=hi-lo+1:=by
 intro l
 induction l with
 | nil=>intro lo hi _ _ h;simp;omega
 | cons s l ih =>
  intro lo hi b hb h;have e:=hb s (by simp);have f:=b.2 s (by simp);have d:=(List.pairwise_cons.1 b.1).1;have:=ih (lo:=s.Hi+1) (hi:=hi) b.tail (λt c=>⟨by have:=d t c;omega,(hb t (by simp [c])).2⟩) (by omega);simp;omega
def wd (l:List api_Span) (d:Int):List api_Span:=un (l.map λs=>⟨s.Lo-d,s.Hi+d⟩)
theorem Vm (b:valid l) (hd:0<=d):valid (l.map λs=>(⟨s.Lo-d,s.Hi+d⟩:api_Span)):=by
 intro s c;obtain ⟨t,e,rfl⟩:=List.mem_map.1 c;have:=b t e;simp only;omega
theorem A9o (c:valid l) (hd:0<=d) (z:Int):mem z (wd l d)↔∃y,mem y l/\y-2*d<=z/\z<=y+2*d:=by
 unfold wd;rw [Tw (Vm c hd)];constructor
 ·rintro ⟨s,g,e,f⟩;obtain ⟨t,b,rfl⟩:=List.mem_map.1 g;have i:=c t b;simp only at e f
  by_cases j:z<2*t.Lo
  ·exact ⟨2*t.Lo,⟨t,b,by unfold inS;omega⟩,by omega,by omega⟩
  ·by_cases hb:2*t.Hi<z
   ·exact ⟨2*t.Hi,⟨t,b,by unfold inS;omega⟩,by omega,by omega⟩
   ·exact ⟨z,⟨t,b,by unfold inS;omega⟩,by omega,by omega⟩
 ·rintro ⟨y,⟨t,b,e,f⟩,k,m⟩;exact ⟨_,List.mem_map.2 ⟨t,b,rfl⟩,by unfold inS;simp only;omega⟩
def cm (a b:api_Span):Option api_Span:=if Ml (Ka a b)=true then some (Ka a b) else none
theorem Xz {a b:api_Span} :inS z (Ka a b)↔inS z a/\inS z b:=by
 unfold Ka inS;simp only
 split<;>split<;>omega
theorem A3s {a b:api_Span} :(∃s,cm a b=some s/\inS z s)↔inS z a/\inS z b:=by
 rw [←Xz];unfold cm Ml;simp only [decide_eq_true_eq];constructor
 ·rintro ⟨s,h,d⟩
  by_cases c:(Ka a b).Lo<=(Ka a b).Hi
  ·rw [if_pos c] at h;cases h;exact d
  ·rw [if_neg c] at h;cases h
 ·intro h;rw [if_pos (by unfold inS at h;omega)];exact ⟨_,rfl,h⟩
theorem Xx {a b s:api_Span} (h:cm a b=some s):s.Lo<=s.Hi:=by
 unfold cm Ml at h;simp only [decide_eq_true_eq] at h
 by_cases c:(Ka a b).Lo<=(Ka a b).Hi
 ·rw [if_pos c] at h;cases h;exact c
 ·rw [if_neg c] at h;cases h
def prs (a b:List api_Span):List api_Span:=a.flatMap λx=>b.filterMap (cm x)
theorem Wm (a b:List api_Span):valid (prs a b):=by
 intro s c;obtain ⟨x,_,c⟩:=List.mem_flatMap.1 c;obtain ⟨y,_,c⟩:=List.mem_filterMap.1 c;exact Xx c
theorem A6y (a b:List api_Span) (z:Int):mem z (prs a b)↔mem z a/\mem z b:=by
 constructor
 ·rintro ⟨s,c,d⟩;obtain ⟨x,e,c⟩:=List.mem_flatMap.1 c;obtain ⟨y,f,c⟩:=List.mem_filterMap.1 c;obtain ⟨g,i⟩:=A3s.1 ⟨s,c,d⟩;exact ⟨⟨x,e,g⟩,⟨y,f,i⟩⟩
 ·rintro ⟨⟨x,e,g⟩,⟨y,f,i⟩⟩;obtain ⟨s,c,d⟩:=A3s.2 ⟨g,i⟩;exact ⟨s,List.mem_flatMap.2 ⟨x,e,List.mem_filterMap.2 ⟨y,f,c⟩⟩,d⟩
def mt (a b:List api_Span):List api_Span:=un (prs a b)
theorem Tm (a b:List api_Span) (z:Int):mem z (mt a b)↔mem z a/\mem z b:=(Tw (Wm a b) z).trans (A6y a b z)
theorem Pa (a b:List api_Span):Canon (mt a b):=Pf (Wm a b)
def nr (a b:List api_Span) (d:Int):List api_Span:=mt a (wd b d)
theorem Ry (c:valid b) (hd:0<=d) (z:Int):mem z (nr a b d)↔mem z a/\∃y,mem y b/\y-2*d<=z/\z<=y+2*d:=by
 unfold nr;rw [Tm,A9o c hd]
theorem Vd (a b:List api_Span) (d:Int):Canon (nr a b d):=Pa _ _
theorem A2q {B:Int} (c:valid b) (hd:0<=d) (h:M4 B a):M4 B (nr a b d) :=
 Mf (Vd _ _ _).2 λz e=>Na h ((Ry c hd z).1 e).1
def tp:Nat->List api_Span->List api_Span->List api_Span
 | 0,_,_=>[]
 | n+1,a::ys,b::zs=>(cm a b).toList++(if a.Hi<b.Hi then tp n ys (b::zs) else tp n (a::ys) zs)
 | _+1,_,_=>[]
theorem Vl:∀(n:Nat) (a b:List api_Span),valid (tp n a b):=by
 intro n
 induction n with
 | zero=>intro a b s c;simp [tp] at c
 | succ n ih =>
  intro a b s c
  cases a with
  | nil=>simp [tp] at c
  | cons x a =>
   cases b with
   | nil=>simp [tp] at c
   | cons y b =>
    unfold tp at c;rcases List.mem_append.1 c with c|c
    ·cases d:cm x y with
     | none=>rw [d] at c;simp at c
     | some t=>rw [d] at c;simp at c;subst c;exact Xx d
    ·split at c
     ·exact ih _ _ s c
     ·exact ih _ _ s c
theorem A6s:mem z (a++b)↔mem z a\/mem z b:=by
 constructor
 ·rintro ⟨s,d,c⟩;rcases List.mem_append.1 d with h|h
  ·exact .inl ⟨s,h,c⟩
  ·exact .inr ⟨s,h,c⟩
 ·rintro (⟨s,h,c⟩|⟨s,h,c⟩)
  ·exact ⟨s,List.mem_append.2 (.inl h),c⟩
  ·exact ⟨s,List.mem_append.2 (.inr h),c⟩
theorem A8v {a b:api_Span} :mem z (cm a b).toList↔inS z a/\inS z b:=by
 rw [←A3s];constructor
 ·rintro ⟨s,c,d⟩
  cases e:cm a b with
  | none=>rw [e] at c;simp at c
  | some t=>rw [e] at c;simp at c;subst c;exact ⟨_,rfl,d⟩
 ·rintro ⟨s,c,d⟩;exact ⟨s,by rw [c];simp,d⟩
theorem A5t:∀(n:Nat) (a b:List api_Span),a.length+b.length<=n->Canon a->Canon b->∀z,mem z (tp n a b)↔mem z a/\mem z b:=by
 intro n
 induction n with
 | zero =>
  intro a b g _ _ z;have:a=[]:=List.length_eq_zero_iff.1 (by omega);subst this;exact ⟨λh=>absurd h (Mw z),λh=>absurd h.1 (Mw z)⟩
 | succ n ih =>
  intro a b g f hb z
  cases a with
  | nil=>exact ⟨λh=>absurd h (Mw z),λh=>absurd h.1 (Mw z)⟩
  | cons x a =>
   cases b with
   | nil=>exact ⟨λh=>absurd h (Mw z),λh=>absurd h.2 (Mw z)⟩
   | cons y b =>
    simp only [List.length_cons] at g;unfold tp;rw [A6s,A8v]
    by_cases e:x.Hi<y.Hi
    ·rw [if_pos e,ih a (y::b) (by simp only [List.length_cons];omega) f.tail hb z];constructor
     ·rintro (⟨c,d⟩|⟨c,d⟩)
      ·exact ⟨mem_cons.2 (.inl c),mem_cons.2 (.inl d)⟩
      ·exact ⟨mem_cons.2 (.inr c),d⟩
     ·rintro ⟨c,d⟩;rcases mem_cons.1 c with c|c
      ·rcases mem_cons.1 d with d|d
       ·exact .inl ⟨c,d⟩
       ·have:=hb.beyond d;have:=c.2;omega
      ·exact .inr ⟨c,d⟩
    ·rw [if_neg e,ih (x::a) b (by simp only [List.length_cons];omega) f hb.tail z];constructor
     ·rintro (⟨c,d⟩|⟨c,d⟩)
      ·exact ⟨mem_cons.2 (.inl c),mem_cons.2 (.inl d)⟩
      ·exact ⟨c,mem_cons.2 (.inr d)⟩
     ·rintro ⟨c,d⟩;rcases mem_cons.1 d with d|d
      ·rcases mem_cons.1 c with c|c
       ·exact .inl ⟨c,d⟩
       ·have:=f.beyond c;have:=d.2;omega
      ·exact .inr ⟨c,d⟩
theorem A9i:∀(n:Nat) (a b:List api_Span),(tp n a b).length<=n:=by
 intro n
 induction n with
 | zero=>intro a b;simp [tp]
 | succ n ih =>
  intro a b
  cases a with
  | nil=>simp [tp]
  | cons x a =>
   cases b with
   | nil=>simp [tp]
   | cons y b =>
    unfold tp;have c:(cm x y).toList.length<=1:=by cases cm x y<;>simp
    rw [List.length_append]
    split
    ·have:=ih a (y::b);omega
    ·have:=ih (x::a) b;omega
theorem B0n (c:a.length+b.length<=n) (d:Canon a) (hb:Canon b):un (tp n a b)=mt a b :=
 Sb (Pf (Vl n a b)) (Pa a b) λz=>(Tw (Vl n a b) z).trans ((A5t n a b c d hb z).trans (Tm a b z).symm)
def FF:Nat:=2000000000000
theorem Tn (i:Nat):((i:Int)+1)=((i+1:Nat):Int):=by omega
theorem Tx (b:FF<=F) (c:valid l) (hb:∀s∈l,spB s) (d:l.length<=1000000000000):Cl F l=some (un l):=by
 unfold FF at b;obtain ⟨σ,e,f,g⟩:=A3a F l (by omega) d hb;rw [e,A38 f g c]
section
theorem A3b (F:Nat) (c:M4 1000000000 l) (e:valid l) (hd:0<=d/\d<=1000000000) (k:l.length<=1000000000000):∀(n N i:Nat) (acc:List api_Span),i+n=l.length->n<N->acc.length+n<=1000000000000 ->
  Cr F l d N (i:Int) acc=F9 F (acc++(l.drop i).map λs=>⟨s.Lo-d,s.Hi+d⟩):=by
 intro n
 induction n with
 | zero =>
  intro N i acc hi f g;obtain ⟨N,rfl⟩:∃N',N=N'+1:=⟨N-1,by omega⟩;show Cq F l d (Cr F l d N) (i:Int) acc=_;unfold Cq;rw [Au (by simp;omega),List.drop_eq_nil_of_le (by omega)];simp
 | succ n ih =>
  intro N i acc hi f g;obtain ⟨N,rfl⟩:∃N',N=N'+1:=⟨N-1,by omega⟩;show Cq F l d (Cr F l d N) (i:Int) acc=_;unfold Cq;have b:l.getD i default∈l:=by rw [List.getD_eq_getElem?_getD,List.getElem?_eq_getElem (by omega:i<l.length)];exact List.getElem_mem _
  have hb:=c _ b;rw [D9 (i:=i) (by omega) default];rw [B9 (by simp;omega),Ev default (by omega),Int.toNat_natCast];have j:=e _ b;generalize l.getD i default=x at *;rw [ckb (by omega),ckb (by omega),Ky (by simp;omega),ckb (by omega),Tn,ih N (i+1) _ (by omega) (by omega) (by simp;omega)];simp
theorem A9p (c:M4 1000000000 l) (e:valid l) (hd:0<=d/\d<=1000000000):∀s∈l.map (λs=>(⟨s.Lo-d,s.Hi+d⟩:api_Span)),spB s:=by
 intro s f;obtain ⟨t,b,rfl⟩:=List.mem_map.1 f;have:=c t b;have:=e t b;unfold spB;simp only;omega
theorem A7o (e:FF<=F) (f:M4 1000000000 l) (b:valid l) (hd:0<=d/\d<=1000000000) (g:l.length<=1000000000000):Gt F l d=some (wd l d):=by
 have c:=e;unfold FF at c;unfold Gt;have i:=A3b F f b hd g l.length F 0 [] (by omega) (by omega) (by simp;omega);refine Eq.trans i ?_;unfold F9;rw [List.drop_zero,List.nil_append,Tx e (Vm b hd.1) (A9p f b hd) (by simpa using g),sb];rfl
end
theorem cmB {a b:api_Span} (x y:β):(bif (decide ((Ka a b).Lo<=(Ka a b).Hi)) then x else y)=match cm a b with|some _=>x|none=>y:=by
 unfold cm Ml
 by_cases h:(Ka a b).Lo<=(Ka a b).Hi<;>simp [h]
section
theorem A2n (F:Nat) (v:a.length<=100000000000) (hb:b.length<=100000000000):∀(n N i k:Nat) (acc:List api_Span),i<=a.length->k<=b.length->a.length-i+(b.length-k)<=n->n<N->acc.length+n<=1000000000000 ->
  Cb F a b N acc (i:Int) (k:Int)=Dw F (acc++tp n (a.drop i) (b.drop k)):=by
 intro n
 induction n with
 | zero =>
  intro N i k acc hi j p q e;obtain ⟨N,rfl⟩:∃N',N=N'+1:=⟨N-1,by omega⟩;show Cp F a b (Cb F a b N) acc (i:Int) (k:Int)=_;unfold Cp;rw [Au (by simp [cond_eq_ite];omega)];simp [tp]
 | succ n ih =>
  intro N i k acc hi j p q e;obtain ⟨N,rfl⟩:∃N',N=N'+1:=⟨N-1,by omega⟩;show Cp F a b (Cb F a b N) acc (i:Int) (k:Int)=_;unfold Cp
  by_cases l:i<a.length
  ·by_cases m:k<b.length
   ·rw [B9 (by simp [cond_eq_ite];omega),Ev default (by omega),Ev default (by omega),Int.toNat_natCast,Int.toNat_natCast,Qj];have ga:∀{β:Type} (f:api_Span->Option β),(Ax a (i:Int)).bind f=f (a.getD i default):=λf=>by rw [Ev default (by omega),Int.toNat_natCast]
    have gb:∀{β:Type} (f:api_Span->Option β),(Ax b (k:Int)).bind f=f (b.getD k default):=λf=>by rw [Ev default (by omega),Int.toNat_natCast]
    rw [D9 (i:=i) l default,D9 (i:=k) m default];generalize r:a.getD i default=x at *;generalize t:b.getD k default=y at *;have o:∀(c:List api_Span),c.length+n<=1000000000000->Dx a b (i:Int) (k:Int) (Cb F a b N) c=Dw F (c++if x.Hi<y.Hi then tp n (a.drop (i+1)) (y::b.drop (k+1)) else tp n (x::a.drop (i+1)) (b.drop (k+1))):=by
     intro c g;unfold Dx;rw [ga,gb]
     by_cases d:x.Hi<y.Hi
     ·rw [B9 (by simpa using d),ckb (by omega),Tn,ih N (i+1) k c (by omega) j (by omega) (by omega) g,if_pos d,D9 (i:=k) m default,t]
     ·rw [Au (by simpa using d),ckb (by omega),Tn,ih N i (k+1) c hi (by omega) (by omega) (by omega) g,if_neg d,D9 (i:=i) l default,r]
    refine Eq.trans (cmB _ _) ?_
    conv=>rhs;unfold tp
    cases g:cm x y with
    | none=>simp only;rw [o acc (by omega)];simp
    | some s =>
     have u:s=Ka x y:=by unfold cm at g;split at g<;>simp_all
     subst u;simp only;rw [Ky (by simp;omega),o _ (by simp;omega)];simp
   ·rw [Au (by simp [cond_eq_ite];omega),List.drop_eq_nil_of_le (by omega:b.length<=k)]
    cases a.drop i<;>simp [tp]
  ·rw [Au (by simp [cond_eq_ite];omega),List.drop_eq_nil_of_le (by omega:a.length<=i)];simp [tp]
theorem A1g (g:FF<=F) (k:a.length<=100000000000) (hb:b.length<=100000000000) (c:Canon a) (d:Canon b) (l:M4 1000000000 a):Fm F a b=some (mt a b):=by
 have e:=g;unfold FF at e;unfold Fm;have m:=A2n F k hb (a.length+b.length) F 0 0 [] (by omega) (by omega) (by omega) (by omega) (by simp;omega);refine Eq.trans m ?_;unfold Dw;have i:=A9i (a.length+b.length) a b;have f:=Vl (a.length+b.length) a b;have n:M4 1000000000 (tp (a.length+b.length) a b):=Mf f λz o=>Na l ((A5t _ a b (Nat.le_refl _) c d z).1 o).1;rw [List.drop_zero,List.drop_zero,List.nil_append,Tx g f (λs j=>by have:=n s j;have:=f s j;unfold spB;omega) (by omega),sb,B0n (Nat.le_refl _) c d]
end
def Good (l:List api_Span):Prop:=Canon l/\M4 200000 l
theorem Good.len (h:Good l):l.length<=400001:=by
 have:=A22 (lo:=-200000) (hi:=200000) h.1 h.2 (by omega);omega
theorem A9j (l:List api_Span):(un l).length<=l.length:=by
 have:=A06 (l.mergeSort (λx y=>decide (x.Lo<=y.Lo)));rw [List.length_mergeSort] at this;exact this
theorem A9n (l:List api_Span) (d:Int):(wd l d).length<=l.length:=by
 have:=A9j (l.map λs=>(⟨s.Lo-d,s.Hi+d⟩:api_Span))
 simpa [wd] using this
theorem Good.nr (c:Good a) (hb:Good b) (hd:0<=d):Good (nr a b d):=⟨Vd a b d,A2q hb.1.2 hd c.2⟩
theorem Good.mt (c:Good a):Good (mt a b):=⟨Pa a b,Mf (Pa a b).2 λz d=>Na c.2 ((Tm a b z).1 d).1⟩
theorem Good.big (h:Good l):M4 1000000000 l:=λs b=>by have:=h.2 s b;omega
theorem A6t (e:FF<=F) (c:Good a) (hb:Good b) (hd:0<=d/\d<=1000000000):E8 F a b d=some (nr a b d):=by
 have f:=c.len;have g:=hb.len;have i:=A9n b d;unfold E8;rw [A7o e hb.big hb.1.2 hd (by omega),sb,A1g e (by omega) (by omega) c.1 (show Canon (wd b d) from Pf (Vm hb.1.2 hd.1)) c.big,sb];rfl
abbrev Mg:=List (List api_Span)
def gt (S:Mg) (i:Nat):List api_Span:=S.getD i []
def ne (S:Mg) (i:Nat):Bool:=decide ((gt S i).length>0)
def lk (S:Mg) (br:Int) (i j:Nat):Prop:=i<j/\j<S.length/\ne S i=true/\ne S j=true/\(∀x,i<x->x<j->ne S x=false)/\(j:Int)-i<=br
section
variable (S:Mg) (br jp:Int)
end
def AllGood (f:Mg):Prop:=∀x∈f,Good x
theorem Ye:Good []:=⟨⟨.nil,λs b=>by cases b⟩,λs b=>by cases b⟩
theorem AllGood.gt {f:Mg} (h:AllGood f) (i:Nat):Good (gt f i):=by
 unfold Proofs.YtkdhnnfokfchpaaGreat.gt;rw [List.getD_eq_getElem?_getD]
 by_cases hi:i<f.length
 ·rw [List.getElem?_eq_getElem hi];exact h _ (List.getElem_mem hi)
 ·rw [List.getElem?_eq_none (by omega)];exact Ye
theorem AllGood.set {f:Mg} (h:AllGood f) (i:Nat) {x:List api_Span} (c:Good x):AllGood (f.set i x):=by
 intro y d;rcases List.mem_or_eq_of_mem_set d with b|b
 ·exact h y b
 ·rw [b];exact c
theorem A8l {f:Mg} {j:Nat} {x:List api_Span} (hi:i<f.length):gt (f.set i x) j=if i=j then x else gt f j:=by
 unfold gt;rw [List.getD_eq_getElem?_getD,List.getD_eq_getElem?_getD,List.getElem?_set]
 by_cases h:i=j
 ·rw [if_pos h,if_pos h,if_pos hi];rfl
 ·rw [if_neg h,if_neg h]
section
variable {S:Mg}
theorem A4c {f:Mg} (hi:i<f.length) (k:List api_Span->Option β):(Ax f (i:Int)).bind k=k (gt f i):=by
 rw [Ev [] (by omega),Int.toNat_natCast];rfl
end
section
variable {S:Mg}
theorem B13 {f:Mg} {x:List api_Span} (hi:i<f.length) (k:Mg->Option β):(J5 f (i:Int) x).bind k=k (f.set i x):=by
 unfold J5;rw [if_pos (by omega),sb,Int.toNat_natCast]
end
section
variable {S:Mg}
def Kn (S:Mg):List Nat:=(List.range S.length).filter (ne S)
def toI (l:List Nat):List Int:=List.map (λ(x:Nat)=>(x:Int)) l
theorem Ws:(Kn S).length<=S.length:=by
 unfold Kn;have:=List.length_filter_le (ne S) (List.range S.length)
 simpa using this
theorem Qd {x:Nat}:x∈Kn S↔x<S.length/\ne S x=true:=by unfold Kn;rw [List.mem_filter,List.mem_range]
theorem A1w:(Kn S).Pairwise (· < ·):=List.pairwise_lt_range.filter _
def kn (S:Mg) (t:Nat):Nat:=(Kn S).getD t 0
theorem Qk {t:Nat} (h:t<(Kn S).length):kn S t∈Kn S/\(Kn S)[t]? = some (kn S t):=by
 unfold kn;rw [List.getD_eq_getElem?_getD,List.getElem?_eq_getElem h];exact ⟨List.getElem_mem h,rfl⟩
theorem A4n {t u:Nat} (h:t<u) (b:u<(Kn S).length):kn S t<kn S u:=by
 have:=List.pairwise_iff_getElem.1 (A1w (S:=S)) t u (by omega) b h;unfold kn;rw [List.getD_eq_getElem?_getD,List.getD_eq_getElem?_getD,List.getElem?_eq_getElem (by omega:t<(Kn S).length),List.getElem?_eq_getElem b];exact this
theorem Wg {x:Nat} (h:x<S.length) (c:ne S x=true):∃t,t<(Kn S).length/\kn S t=x:=by
 obtain ⟨t,b,e⟩:=List.mem_iff_getElem.1 (Qd.2 ⟨h,c⟩);refine ⟨t,b,?_⟩;unfold kn;rw [List.getD_eq_getElem?_getD,List.getElem?_eq_getElem b,e];rfl
theorem A1b {t u:Nat} (h:t<=u) (b:u<(Kn S).length):kn S t<=kn S u:=by
 by_cases e:t=u
 ·rw [e];exact Nat.le_refl _
 ·exact Nat.le_of_lt (A4n (by omega) b)
theorem A67 {t x:Nat} (c:t+1<(Kn S).length) (f:kn S t<x) (g:x<kn S (t+1)):ne S x=false:=by
 cases d:ne S x with
 | false=>rfl
 | true =>
  have hb:=(Qd.1 (Qk c).1).1;obtain ⟨u,e,rfl⟩:=Wg (by omega) d
  by_cases b:u<=t
  ·have:=A1b b (by omega:t<(Kn S).length);omega
  ·have:=A1b (by omega:t+1<=u) e;omega
theorem A3n {x:Nat} (h0:0<(Kn S).length) (h:x<kn S 0):ne S x=false:=by
 cases b:ne S x with
 | false=>rfl
 | true =>
  have hb:=(Qd.1 (Qk h0).1).1;obtain ⟨u,c,rfl⟩:=Wg (by omega) b;have:=A1b (Nat.zero_le u) c;omega
theorem B0s {x:Nat} (h0:0<(Kn S).length) (b:x<S.length) (h:kn S ((Kn S).length-1)<x):ne S x=false:=by
 cases c:ne S x with
 | false=>rfl
 | true =>
  obtain ⟨u,d,rfl⟩:=Wg b c;have:=A1b (S:=S) (by omega:u<=(Kn S).length-1) (by omega);omega
theorem A02 (e:S.length<=100000):∀(n N i:Nat) (acc:List Int),i+n=S.length->n<N->acc.length<=i ->
  Gf S N acc (i:Int)=some (acc++toI ((List.range' i n).filter (ne S))):=by
 intro n
 induction n with
 | zero =>
  intro N i acc hi c d;obtain ⟨N,rfl⟩:∃N',N=N'+1:=⟨N-1,by omega⟩;show Ge S (Gf S N) acc (i:Int)=_;unfold Ge;rw [Au (by simp;omega)];simp [M6,toI]
 | succ n ih =>
  intro N i acc hi c d;obtain ⟨N,rfl⟩:∃N',N=N'+1:=⟨N-1,by omega⟩;show Ge S (Gf S N) acc (i:Int)=_;unfold Ge Kc;rw [B9 (by simp;omega),A4c (by omega),List.range'_succ]
  by_cases h:ne S i=true
  ·have h':=h;unfold ne at h';rw [B9 (by simpa using h'),Ky (by simp;omega),ckb (by omega),Tn,ih N (i+1) _ (by omega) (by omega) (by simp;omega),List.filter_cons_of_pos h];simp [toI]
  ·have h':ne S i=false:=by simpa using h
   have b:=h';unfold ne at b;rw [Au (by simpa using b),ckb (by omega),Tn,ih N (i+1) _ (by omega) (by omega) (by omega),List.filter_cons_of_neg h]
theorem Yg (b:FF<=F) (c:S.length<=100000):Lr F S=some (toI (Kn S)):=by
 unfold FF at b;unfold Lr;have:=A02 (S:=S) c S.length F 0 [] (by omega) (by omega) (by simp);refine Eq.trans this ?_;unfold Kn;rw [List.range_eq_range',List.nil_append]
theorem A4d {t:Nat} (h:t<(Kn S).length) (k:Int->Option β):(Ax (toI (Kn S)) (t:Int)).bind k=k ((kn S t:Nat):Int):=by
 rw [Ev 0 (by simp [toI];omega),Int.toNat_natCast];have:(toI (Kn S)).getD t 0=((kn S t:Nat):Int):=by
  unfold toI;rw [List.getD_eq_getElem?_getD,List.getElem?_map,(Qk h).2];rfl
 rw [this]
end
def gx (l:List api_Span) (x:Nat):api_Span:=l.getD x default
theorem A7w (hi:i<l.length) (k:api_Span->Option β):(Ax l (i:Int)).bind k=k (gx l i):=by
 rw [Ev default (by omega),Int.toNat_natCast];rfl
section
variable {S:Mg}
end
abbrev Pl:=Nat×Nat
variable {p q:Pl}
abbrev Fam:=Pl->List api_Span
abbrev Lnk:=Pl->Pl->Int->Prop
variable {R:Lnk}
def Zj (f:Fam) (p q:Pl) (d:Int):Prop:=∀z,mem z (f q)->∃y,mem y (f p)/\y-2*d<=z/\z<=y+2*d
def both (R:Lnk):Lnk:=λp q d=>R p q d\/R q p d
def Stable (R:Lnk) (f:Fam):Prop:=∀p q d,both R p q d->Zj f p q d
def Below (f g:Fam):Prop:=∀p z,mem z (f p)->mem z (g p)
def A0u (f:Fam):Prop:=∀p,Good (f p)
def Zf (f:Fam) (p:Pl) (x:List api_Span):Fam:=λq=>if q=p then x else f q
theorem Below.refl (f:Fam):Below f f:=λ_ _ h=>h
theorem Below.trans {f g h:Fam} (a:Below f g) (b:Below g h):Below f h:=λp z c=>b p z (a p z c)
section
variable {f g h:Fam}
theorem Ym (c:A0u f) (hd:0<=d):Below (Zf f q (nr (f q) (f p) d)) f:=by
 intro r z b;unfold Zf at b
 split at b
 ·rename_i e;subst e;exact ((Ry (c p).1.2 hd z).1 b).1
 ·exact b
theorem A50 (c:A0u f) (hd:0<=d) (g:Stable R h) (hb:Below h f) (i:both R p q d):Below h (Zf f q (nr (f q) (f p) d)):=by
 intro r z b;unfold Zf
 split
 ·rename_i e
  subst e;refine (Ry (c p).1.2 hd z).2 ⟨hb _ z b,?_⟩;obtain ⟨y,j,k⟩:=g p r d i z b;exact ⟨y,hb _ y j,k⟩
 ·exact hb r z b
theorem A6v (b:A0u f) (hd:0<=d):nr (f q) (f p) d=f q↔Zj f p q d:=by
 constructor
 ·intro e z c;rw [←e] at c;exact ((Ry (b p).1.2 hd z).1 c).2
 ·intro g;refine Sb (Vd _ _ _) (b q).1 λz=>?_;rw [Ry (b p).1.2 hd z];exact ⟨λh=>h.1,λh=>⟨h,g z h⟩⟩
end
instance (z:Int) (s:api_Span):Decidable (inS z s):=by unfold inS;infer_instance
instance (z:Int) (l:List api_Span):Decidable (mem z l):=by unfold mem;infer_instance
def HN:Nat:=800001
theorem A7p:HN=800001:=rfl
attribute [irreducible] HN
def vol (l:List api_Span):Nat:=(List.range HN).countP (λk:Nat=>decide (mem ((k:Int)-400000) l))
theorem W7 {p q:α->Bool}:∀(l:List α),(∀x∈l,p x=true->q x=true)->l.countP p<=l.countP q
 | [],_=>Nat.le_refl _
 | a::l,h=>by
  have ih:=W7 l λx b=>h x (by simp [b]);have c:=h a (by simp);rw [List.countP_cons,List.countP_cons]
  split
  ·rw [if_pos (c (by assumption))];omega
  ·split<;>omega
theorem W8 {p q:α->Bool}:∀(l:List α),(∀x∈l,p x=true->q x=true)->(∃x∈l,q x=true/\p x=false)->l.countP p<l.countP q
 | [],_,h=>by obtain ⟨x,b,_⟩:=h;cases b
 | a::l,h,he=>by
  have g:=W7 l λx b=>h x (by simp [b]);have e:=h a (by simp);rw [List.countP_cons,List.countP_cons];obtain ⟨x,b,c,d⟩:=he;rcases List.mem_cons.1 b with rfl|b
  ·rw [c,d];simp;omega
  ·have:=W8 l (λx b=>h x (by simp [b])) ⟨x,b,c,d⟩
   cases f:p a with
   | true=>rw [e f];simp;omega
   | false=>simp;omega
theorem A9l (d:∀z,mem z a->mem z b) (j:Canon a) (hb:Good b) (c:a≠b):vol a<vol b:=by
 refine W8 _ (λk _ f=>?_) ?_
 ·simp only [decide_eq_true_eq] at f ⊢;exact d _ f
 ·have:∃z,mem z b/\¬mem z a:=by
   apply Classical.byContradiction;intro l;refine c (Sb j hb.1 λz=>⟨d z,λg=>?_⟩);apply Classical.byContradiction;intro h;exact l ⟨z,g,h⟩
  obtain ⟨z,i,m⟩:=this;have g:=Na hb.2 i;have:=A7p;refine ⟨(z+400000).toNat,List.mem_range.2 (by omega),?_,?_⟩
  ·have e:(((z+400000).toNat:Nat):Int)-400000=z:=by omega
   rw [e];simpa using i
  ·have e:(((z+400000).toNat:Nat):Int)-400000=z:=by omega
   rw [e];simpa using m
theorem A9k (l:List api_Span):vol l<=HN:=by
 have:vol l<=(List.range HN).length:=List.countP_le_length ..
 rwa [List.length_range] at this
abbrev Rays:=List Mg
variable {S G:Rays}
def gf (G:Rays):Fam:=λp=>gt (G.getD p.1 []) p.2
def sf (G:Rays) (p:Pl) (x:List api_Span):Rays:=G.set p.1 ((G.getD p.1 []).set p.2 x)
def Shape (G:Rays) (n m:Nat):Prop:=G.length=n/\∀r∈G,r.length=m
def AllG (G:Rays):Prop:=∀r∈G,AllGood r
section
variable {a:Nat} {x:List api_Span}
theorem Yd {l:List α} {d:α} (h:i<l.length):l.getD i d∈l:=by
 rw [List.getD_eq_getElem?_getD,List.getElem?_eq_getElem h];exact List.getElem_mem h
theorem Shape.row (h:Shape G n m) (b:a<n):(G.getD a []).length=m:=h.2 _ (Yd (by rw [h.1];exact b))
theorem AllG.row (h:AllG G) (a:Nat):AllGood (G.getD a []):=by
 by_cases b:a<G.length
 ·exact h _ (Yd b)
 ·rw [List.getD_eq_getElem?_getD,List.getElem?_eq_none (by omega)];intro x c;cases c
theorem AllG.good (h:AllG G):A0u (gf G):=λp=>(h.row p.1).gt p.2
theorem AllG.sf (h:AllG G) (c:Good x):AllG (sf G p x):=by
 intro r d;rcases List.mem_or_eq_of_mem_set d with b|b
 ·exact h r b
 ·rw [b];exact (h.row p.1).set p.2 c
theorem Shape.sf (h:Shape G n m) (c:p.1<n):Shape (sf G p x) n m:=by
 refine ⟨by unfold Proofs.YtkdhnnfokfchpaaGreat.sf;rw [List.length_set];exact h.1,λr d=>?_⟩;rcases List.mem_or_eq_of_mem_set d with b|b
 ·exact h.2 r b
 ·rw [b,List.length_set];exact h.row c
theorem A4b {l:List α} {j:Nat} {x d:α} (hi:i<l.length):(l.set i x).getD j d=if i=j then x else l.getD j d:=by
 rw [List.getD_eq_getElem?_getD,List.getD_eq_getElem?_getD,List.getElem?_set]
 by_cases h:i=j
 ·rw [if_pos h,if_pos h,if_pos hi];rfl
 ·rw [if_neg h,if_neg h]
theorem A4e (h:Shape G n m) (d:p.1<n/\p.2<m):gf (sf G p x)=Zf (gf G) p x:=by
 funext q
 unfold gf sf Zf;rw [A4b (by rw [h.1];exact d.1)]
 by_cases b:p.1=q.1
 ·rw [if_pos b,A8l (by rw [h.row d.1];exact d.2)]
  by_cases c:p.2=q.2
  ·rw [if_pos c,if_pos (Prod.ext b.symm c.symm)]
  ·rw [if_neg c,if_neg (λe=>c (by rw [e])),b]
 ·rw [if_neg b,if_neg (λe=>b (by rw [e]))]
def Vol (G:Rays):Nat:=(G.map λr=>(r.map vol).sum).sum
theorem Xl (f:α->Nat) (d:α):∀(l:List α) (i:Nat) (x:α),i<l.length->((l.set i x).map f).sum+f (l.getD i d)=(l.map f).sum+f x
 | [],i,x,h=>by simp at h
 | a::l,0,x,h=>by simp;omega
 | a::l,i+1,x,h=>by
  have:=Xl f d l i x (by simpa using h);simp only [List.set_cons_succ,List.map_cons,List.sum_cons,List.getD_cons_succ];omega
theorem A8c (h:Shape G n m) (b:p.1<n/\p.2<m):Vol (sf G p x)+vol (gf G p)=Vol G+vol x:=by
 have d:=Xl (λr:Mg=>(r.map vol).sum) [] G p.1 ((G.getD p.1 []).set p.2 x) (by rw [h.1];exact b.1);have c:=Xl vol [] (G.getD p.1 []) p.2 x (by rw [h.row b.1];exact b.2);have e1:(((G.getD p.1 []).getD p.2 []):List api_Span)=gf G p:=rfl;rw [e1] at c;unfold Vol sf;omega
theorem A8b (h:Shape G n m):Vol G<=n*(m*HN):=by
 obtain ⟨d,c⟩:=h;subst d;unfold Vol
 induction G with
 | nil=>simp
 | cons r G ih =>
  have b:∀(l:Mg),(l.map vol).sum<=l.length*HN:=by
   intro l
   induction l with
   | nil=>simp
   | cons a l ih=>have:=A9k a;simp only [List.map_cons,List.sum_cons,List.length_cons,Nat.add_mul,Nat.one_mul];omega
  have e:=b r;rw [c r (by simp)] at e;have ih:=ih λr b=>c r (by simp [b]);simp only [List.map_cons,List.sum_cons,List.length_cons,Nat.add_mul,Nat.one_mul];omega
end
section
variable (S:Rays) (br jp:Int)
def LA:Lnk:=λp q d=>p.1=q.1/\p.1<S.length/\lk (S.getD p.1 []) br p.2 q.2/\d=jp*((q.2:Int)-p.2)
def fst (a i k:Nat):Prop:=1<=k/\(k:Int)<=br/\k<S.length/\ne (S.getD ((a+k)%S.length) []) i=true/\∀k',1<=k'->k'<k->ne (S.getD ((a+k')%S.length) []) i=false
def LO:Lnk:=λp q d=>p.1<S.length/\ne (S.getD p.1 []) p.2=true/\p.2=q.2/\∃k,fst S br p.1 p.2 k/\q.1=(p.1+k)%S.length/\d=jp*(k:Int)
def LL:Lnk:=λp q d=>LA S br jp p q d\/LO S br jp p q d
end
theorem A1h {S:Mg} (h:ne S i=true):i<S.length:=by
 apply Classical.byContradiction;intro b;unfold ne gt at h;rw [List.getD_eq_getElem?_getD,List.getElem?_eq_none (by omega)] at h;simp at h
section
theorem Uo (c:Shape S n m) (h:LL S br jp p q d):p.1<n/\p.2<m/\q.1<n/\q.2<m/\p≠q:=by
 rcases h with ⟨i,b,f,j⟩|⟨i,b,f,k,j,g,l⟩
 ·rw [c.1] at b;have:=c.row b;have g:=A1h f.2.2.1;have l:=f.2.1;rw [this] at g l;exact ⟨b,g,i▸b,l,λe=>by have:=f.1;rw [e] at this;omega⟩
 ·have o:0<S.length:=by omega
  have r:=A1h b;rw [c.1] at *;rw [c.row i] at r;refine ⟨i,r,g▸Nat.mod_lt _ o,f▸r,λe=>?_⟩;have u:=j.1;have s:=j.2.2.1;rw [c.1] at s;have e1:p.1=(p.1+k)%n:=by rw [←g,←e]
  by_cases t:p.1+k<n
  ·rw [Nat.mod_eq_of_lt t] at e1;omega
  ·rw [Nat.mod_eq_sub_mod (by omega),Nat.mod_eq_of_lt (by omega)] at e1;omega
theorem A9q (j:Shape S n m) (hj:0<=jp/\jp<=400000) (hb:br<=16) (h:LL S br jp p q d):0<=d/\d<=1000000000:=by
 have key:∀c:Int,0<=c->c<=16->0<=jp*c/\jp*c<=1000000000:=by
  intro c h0 e;have e1:=Int.mul_nonneg hj.1 h0;have e2:jp*c<=400000*16:=Int.mul_le_mul hj.2 e h0 (by omega);omega
 rcases h with ⟨e,g,f,b⟩|⟨e,g,f,k,b,l,i⟩
 ·rw [b];have:=f.1;have:=f.2.2.2.2.2;exact key _ (by omega) (by omega)
 ·rw [i];have:=b.1;have:=b.2.1;exact key _ (by omega) (by omega)
theorem A2b {a:Nat} (b:a<G.length) (k:Mg->Option β):(Ax G (a:Int)).bind k=k (G.getD a []):=by
 rw [Ev [] (by omega),Int.toNat_natCast]
theorem B12 {a b:Nat} (hb:0<b) (k:Int->Option β):(Ht (a:Int) (b:Int)).bind k=k ((a%b:Nat):Int):=by
 unfold Ht;rw [if_neg (by omega)];show k _=_
 congr 1
theorem A8z (G:Mg) (i:Nat):decide ((((gt G i).length:Nat):Int)>0)=ne G i:=by
 unfold ne;rw [Bool.eq_iff_iff];simp only [decide_eq_true_eq];omega
end
theorem Jn (a b:List api_Span) (k:a.length=b.length) (hb:a.length<=1000000000):∀(n N i:Nat),i+n=a.length->n<N ->
  Az a b N (i:Int)=some (decide (a.drop i=b.drop i)):=by
 intro n
 induction n with
 | zero =>
  intro N i hi f;obtain ⟨N,rfl⟩:∃N',N=N'+1:=⟨N-1,by omega⟩;show Ay a b (Az a b N) (i:Int)=_;unfold Ay;rw [Au (by simp;omega),List.drop_eq_nil_of_le (by omega),List.drop_eq_nil_of_le (by omega)];rfl
 | succ n ih =>
  intro N i hi f;obtain ⟨N,rfl⟩:∃N',N=N'+1:=⟨N-1,by omega⟩;show Ay a b (Az a b N) (i:Int)=_;unfold Ay;rw [B9 (by simp;omega),A7w (by omega),A7w (by omega),D9 (i:=i) (l:=a) (by omega) default,D9 (i:=i) (l:=b) (by omega) default];show (bif (!(((gx a i).Lo==(gx b i).Lo)&&(((gx a i).Hi==(gx b i).Hi)&&true))) then _ else _)=some (decide (gx a i::a.drop (i+1)=gx b i::b.drop (i+1)))
  by_cases he:gx a i=gx b i
  ·rw [he,Au (by simp),ckb (by omega),Tn,ih N (i+1) (by omega) (by omega)]
   congr 1
   simp
  ·rw [B9]
   ·congr 1
    simp [he]
   ·apply Classical.byContradiction;intro e;apply he;simp only [Bool.not_eq_true,Bool.not_eq_false',Bool.and_eq_true,beq_iff_eq,and_true] at e;obtain ⟨c,d⟩:=e
    cases g:gx a i;cases j:gx b i
    rw [g,j] at c d;simp only at c d;rw [c,d]
theorem K6 (d:FF<=F) (a b:List api_Span) (f:a.length<=1000000000):Bo F a b=some (decide (a=b)):=by
 unfold FF at d;unfold Bo
 by_cases c:a.length=b.length
 ·rw [Au (by simp;omega)];exact Jn a b c f a.length F 0 (by omega) (by omega)
 ·rw [B9 (by simp;omega)]
  congr 1
  have:a≠b:=λe=>c (by rw [e]);simp [this]
section
theorem B14 {a:Nat} {x:Mg} (b:a<G.length) (k:Rays->Option β):(J5 G (a:Int) x).bind k=k (G.set a x):=by
 unfold J5;rw [if_pos (by omega),sb,Int.toNat_natCast]
structure Inv (S:Rays) (R:Lnk) (n m:Nat) (G:Rays):Prop where
 shape:Shape G n m
 good:AllG G
 below:Below (gf G) (gf S)
 most:∀h,Stable R h->Below h (gf S)->Below h (gf G)
theorem Inv.step (h:Inv S R n m G) (hd:0<=d) (f:q.1<n/\q.2<m) (j:both R p q d):Inv S R n m (sf G q (nr (gf G q) (gf G p) d))/\(nr (gf G q) (gf G p) d≠gf G q->Vol (sf G q (nr (gf G q) (gf G p) d))<Vol G):=by
 have e:=h.good.good;have c:Good (nr (gf G q) (gf G p) d):=(e q).nr (e p) hd;refine ⟨⟨h.shape.sf f.1,h.good.sf c,?_,λk i hb=>?_⟩,λg=>?_⟩
 ·rw [A4e h.shape f];exact (Ym e hd).trans h.below
 ·rw [A4e h.shape f];exact A50 e hd i (h.most k i hb) j
 ·have o:=A8c (x:=nr (gf G q) (gf G p) d) h.shape f;have r:=A9l (a:=nr (gf G q) (gf G p) d) (b:=gf G q) (λz l=>((Ry (e p).1.2 hd z).1 l).1) c.1 (e q) g;omega
def FS:Nat:=4000000000000
end
section
variable {κ ν:Type} [DecidableEq κ]
theorem A1e (B:List (κ×ν)) (x y:κ) (v:ν):lkM (upM B x v) y=if y=x then some v else lkM B y:=by
 induction B with
 | nil=>unfold upM lkM;split<;>rfl
 | cons p B ih =>
  unfold upM
  by_cases c:x=p.1
  ·rw [if_pos c];unfold lkM
   by_cases b:y=x
   ·simp [b]
   ·simp only [if_neg b];rw [if_neg (by rw [←c];exact b)]
  ·rw [if_neg c];unfold lkM
   by_cases b:y=p.1
   ·rw [if_pos b,if_pos b,if_neg (λe=>c (by rw [←e,b]))]
   ·rw [if_neg b,if_neg b,ih]
def keysNd (B:List (κ×ν)):Prop:=(B.map (·.1)).Nodup
theorem A7k (B:List (κ×ν)) (x:κ) (v:ν):∀k,k∈(upM B x v).map (·.1)↔k∈B.map (·.1)\/k=x:=by
 intro k
 induction B with
 | nil=>simp [upM]
 | cons p B ih =>
  unfold upM
  by_cases b:x=p.1
  ·rw [if_pos b];simp only [List.map_cons,List.mem_cons,b];constructor
   ·rintro (h|h)
    ·exact .inr h
    ·exact .inl (.inr h)
   ·rintro ((h|h)|h)
    ·exact .inl h
    ·exact .inr h
    ·exact .inl h
  ·rw [if_neg b];simp only [List.map_cons,List.mem_cons,ih];constructor
   ·rintro (h|h|h)
    ·exact .inl (.inl h)
    ·exact .inl (.inr h)
    ·exact .inr h
   ·rintro ((h|h)|h)
    ·exact .inl h
    ·exact .inr (.inl h)
    ·exact .inr (.inr h)
theorem B0o {B:List (κ×ν)} (h:keysNd B) (x:κ) (v:ν):keysNd (upM B x v):=by
 induction B with
 | nil=>simp [keysNd,upM]
 | cons p B ih =>
  unfold keysNd at h ⊢;rw [List.map_cons,List.nodup_cons] at h;unfold upM
  by_cases b:x=p.1
  ·rw [if_pos b,List.map_cons,List.nodup_cons];exact ⟨by rw [b];exact h.1,h.2⟩
  ·rw [if_neg b,List.map_cons,List.nodup_cons,A7k];exact ⟨λc=>c.elim h.1 (λe=>b e.symm),ih h.2⟩
theorem A6q {B:List (κ×ν)} {y:κ} (h:y∉B.map (·.1)):lkM B y=none:=by
 induction B with
 | nil=>rfl
 | cons p B ih =>
  simp only [List.map_cons,List.mem_cons,not_or] at h;unfold lkM;rw [if_neg h.1,ih h.2]
theorem A6b (B:List (κ×ν)) (x k:κ) (h:k∈(P6 B x).map (·.1)):k∈B.map (·.1):=by
 induction B with
 | nil=>exact h
 | cons p B ih =>
  unfold P6 at h
  by_cases b:x=p.1
  ·rw [if_pos b] at h;simp [h]
  ·rw [if_neg b,List.map_cons,List.mem_cons] at h;rw [List.map_cons,List.mem_cons];exact h.imp id ih
theorem A8i {B:List (κ×ν)} (h:keysNd B) (x:κ):keysNd (P6 B x):=by
 induction B with
 | nil=>exact h
 | cons p B ih =>
  unfold keysNd at h ⊢;rw [List.map_cons,List.nodup_cons] at h;unfold P6
  by_cases b:x=p.1
  ·rw [if_pos b];exact h.2
  ·rw [if_neg b,List.map_cons,List.nodup_cons];exact ⟨λc=>h.1 (A6b B x _ c),ih h.2⟩
theorem A8u {B:List (κ×ν)} (h:keysNd B) (x y:κ):lkM (P6 B x) y=if y=x then none else lkM B y:=by
 induction B with
 | nil=>unfold P6 lkM;split<;>rfl
 | cons p B ih =>
  have h':=h;unfold keysNd at h;rw [List.map_cons,List.nodup_cons] at h;unfold P6
  by_cases c:x=p.1
  ·rw [if_pos c]
   by_cases b:y=x
   ·rw [if_pos b];exact A6q (by rw [b,c];exact h.1)
   ·rw [if_neg b]
    conv=>rhs;unfold lkM
    rw [if_neg (by rw [←c];exact b)]
  ·rw [if_neg c]
   conv=>lhs;unfold lkM
   by_cases b:y=p.1
   ·rw [if_pos b,if_neg (λe=>c (by rw [←e,b]))];unfold lkM;rw [if_pos b]
   ·rw [if_neg b,ih h.2]
    conv=>rhs;unfold lkM
    rw [if_neg b]
end
abbrev Bonds:=List (fold_place×List fold_bond)
def pl (p:Pl):fold_place:=⟨(p.1:Int),(p.2:Int)⟩
theorem Qp (h:pl p=pl q):p=q:=by
 unfold pl at h;simp only [fold_place.mk.injEq] at h;exact Prod.ext (by omega) (by omega)
def Bd (B:Bonds) (r:fold_place):List fold_bond:=(lkM B r).getD []
theorem A6p (F:Nat) (W:Rays) (B:Bonds) {p q:fold_place} (f:p≠q) (d:Int) (g:(Bd B p).length<=100000000) (i:(Bd B q).length<=100000000) :
  ∃B',Dl F ⟨W,B⟩ p q d=some ⟨W,B'⟩/\∀r,Bd B' r=if r=p then Bd B p++[⟨q,d⟩] else if r=q then Bd B q++[⟨p,d⟩] else Bd B r:=by
 unfold Dl;unfold Bd at g i;have e:lkM (upM B p ((lkM B p).getD []++[(⟨q,d⟩:fold_bond)])) q=lkM B q:=by rw [A1e,if_neg (λe=>f e.symm)]
 show ∃B',((apd 24 ((lkM B p).getD []) [(⟨q,d⟩:fold_bond)]).bind λl23=>(apd 24 ((lkM (upM B p l23) q).getD []) [(⟨p,d⟩:fold_bond)]).bind λl67=>some (⟨W,upM (upM B p l23) q l67⟩:fold_web))=some ⟨W,B'⟩/\_;rw [Ky (by simp;omega),e,Ky (by simp;omega)];refine ⟨_,rfl,λr=>?_⟩;unfold Bd;rw [A1e,A1e]
 by_cases b:r=q
 ·rw [if_pos b,if_neg (λe=>f (by rw [←e,b])),if_pos b];rfl
 ·rw [if_neg b]
  by_cases c:r=p
  ·rw [if_pos c,if_pos c];rfl
  ·rw [if_neg c,if_neg c,if_neg b]
structure WI (P:Lnk) (B:Bonds) (c:Nat):Prop where
 len:∀r,(Bd B r).length<=c
 iff:∀(p q:Pl) d,(⟨pl q,d⟩:fold_bond)∈Bd B (pl p)↔both P p q d
 form:∀r b,b∈Bd B r->∃p q:Pl,r=pl p/\b.to=pl q
def A63 (P:Lnk) (p q:Pl) (d:Int):Lnk:=λa b e=>P a b e\/(a=p/\b=q/\e=d)
theorem WI.link {P:Lnk} {B:Bonds} {c:Nat} (h:WI P B c) (k:c<=100000000) (F:Nat) (W:Rays) (i:p≠q) (d:Int):∃B',Dl F ⟨W,B⟩ (pl p) (pl q) d=some ⟨W,B'⟩/\WI (A63 P p q d) B' (c+1):=by
 have l:=h.len (pl p);have m:=h.len (pl q);obtain ⟨B',b1,b2⟩:=A6p F W B (λe=>i (Qp e)) d (by omega) (by omega);refine ⟨B',b1,λr=>?_,λa b e=>?_,λr b hb=>?_⟩
 ·have n:=h.len r;rw [b2]
  split
  ·simp;omega
  ·split
   ·simp;omega
   ·omega
 ·rw [b2];have hi:=h.iff a b e;unfold both A63 at *
  by_cases f:a=p
  ·subst f;rw [if_pos rfl,List.mem_append,List.mem_singleton,hi];have j:¬(a=q):=i;constructor
   ·rintro ((h|h)|h)
    ·exact .inl (.inl h)
    ·exact .inr (.inl h)
    ·simp only [fold_bond.mk.injEq] at h;exact .inl (.inr ⟨rfl,Qp h.1,h.2⟩)
   ·rintro ((h|⟨_,rfl,rfl⟩)|(h|⟨_,h,_⟩))
    ·exact .inl (.inl h)
    ·exact .inr rfl
    ·exact .inl (.inr h)
    ·exact absurd h j
  ·rw [if_neg (λe=>f (Qp e))]
   by_cases g:a=q
   ·subst g;rw [if_pos rfl,List.mem_append,List.mem_singleton,hi];constructor
    ·rintro ((h|h)|h)
     ·exact .inl (.inl h)
     ·exact .inr (.inl h)
     ·simp only [fold_bond.mk.injEq] at h;exact .inr (.inr ⟨Qp h.1,rfl,h.2⟩)
    ·rintro ((h|⟨h,_⟩)|(h|⟨rfl,_,rfl⟩))
     ·exact .inl (.inl h)
     ·exact absurd h f
     ·exact .inl (.inr h)
     ·exact .inr rfl
   ·rw [if_neg (λe=>g (Qp e)),hi];constructor
    ·rintro (h|h)
     ·exact .inl (.inl h)
     ·exact .inr (.inl h)
    ·rintro ((h|⟨h,_⟩)|(h|⟨_,h,_⟩))
     ·exact .inl h
     ·exact absurd h f
     ·exact .inr h
     ·exact absurd h g
 ·rw [b2] at hb
  split at hb
  ·rename_i e
   rcases List.mem_append.1 hb with hb|hb
   ·obtain ⟨a,b',e1,e2⟩:=h.form _ _ hb;exact ⟨p,b',e,e2⟩
   ·simp at hb;subst hb;exact ⟨p,q,e,rfl⟩
  ·split at hb
   ·rename_i e
    rcases List.mem_append.1 hb with hb|hb
    ·obtain ⟨a,b',e1,e2⟩:=h.form _ _ hb;exact ⟨q,b',e,e2⟩
    ·simp at hb;subst hb;exact ⟨q,p,e,rfl⟩
   ·exact h.form r b hb
theorem WI.same {P Q:Lnk} {B:Bonds} {c c':Nat} (h:WI P B c) (e:c<=c') (b:∀p q d,P p q d↔Q p q d):WI Q B c' :=
 ⟨λr=>Nat.le_trans (h.len r) e,λp q d=>by rw [h.iff];unfold both;rw [b,b],h.form⟩
section
theorem A0s (e:Shape S n m) (hn:n<=1000) (hm:m<=1000) (hj:0<=jp/\jp<=400000) (hb:br<=16) {a:Nat} (ha:a<n) (hi:i<m) (hk:ne (S.getD a []) i=true) (k5:Rays->Bonds->Int->Option fold_web) (t0:Int) (W:Rays) {P:Lnk} {B:Bonds} {c:Nat} (s:WI P B c) (hc:c<=10000000) :
  ∀(t N k:Nat),k+t=n->1<=k->t<N->(∀k',1<=k'->k'<k->ne (S.getD ((a+k')%n) []) i=false) ->
  ∃B',Fj F S jp br (a:Int) t0 k5 (i:Int) W B N (k:Int)=Gj t0 k5 W B'/\WI (λp q d=>P p q d\/(p=(a,i)/\LO S br jp p q d)) B' (c+1):=by
 have f:∀k:Nat,((k:Int)>br\/k>=n)->(∀k',1<=k'->k'<k->ne (S.getD ((a+k')%n) []) i=false)->∀p q d,¬(p=(a,i)/\LO S br jp p q d):=by
  rintro k b8 b p q d ⟨rfl,o,h2,h3,k2,h4,h5,h6⟩;obtain ⟨g1,g2,g3,g4,g5⟩:=h4;rw [e.1] at g3 g4;have:k2<k:=by omega
  rw [b k2 g1 this] at g4
  cases g4
 intro t
 induction t with
 | zero =>
  intro N k u o hN b;obtain ⟨N,rfl⟩:∃N',N=N'+1:=⟨N-1,by omega⟩;refine ⟨B,?_,s.same (by omega) λp q d=>⟨.inl,λh=>h.elim id λh=>absurd h (f k (.inr (by omega)) b p q d)⟩⟩;show Gi F S jp br (a:Int) t0 k5 (i:Int) W B (Fj F S jp br (a:Int) t0 k5 (i:Int) W B N) (k:Int)=_;unfold Gi;rw [e.1,ckb (by omega),Au (by simp only [decide_eq_false_iff_not];split<;>omega)]
 | succ t ih =>
  intro N k u o hN b;obtain ⟨N,rfl⟩:∃N',N=N'+1:=⟨N-1,by omega⟩;have s1:Fj F S jp br (a:Int) t0 k5 (i:Int) W B (N+1) (k:Int)=Gi F S jp br (a:Int) t0 k5 (i:Int) W B (Fj F S jp br (a:Int) t0 k5 (i:Int) W B N) (k:Int):=rfl;rw [s1];unfold Gi;rw [e.1,ckb (by omega)]
  by_cases v:(k:Int)<=br
  ·rw [B9 (by simp only [decide_eq_true_eq];split<;>omega)];have x:a<S.length:=by rw [e.1];exact ha
   have l:(a+k)%n<n:=Nat.mod_lt _ (by omega);have z:(a+k)%n<S.length:=by rw [e.1];exact l
   have j:=e.row l;have c1:0<=jp*(k:Int)/\jp*(k:Int)<=1000000000:=by
    have e1:=Int.mul_nonneg hj.1 (Int.natCast_nonneg k);have e2:jp*(k:Int)<=400000*16:=Int.mul_le_mul hj.2 (by omega) (by omega) (by omega);omega
   have e3:((a:Int)+(k:Int))=((a+k:Nat):Int):=by omega
   rw [e3,ckb (by omega),B12 (by omega),A2b z,A4c (by rw [j];exact hi),A8z]
   cases r:ne (S.getD ((a+k)%n) []) i with
   | true =>
    have hl:LO S br jp (a,i) ((a+k)%n,i) (jp*(k:Int)):=⟨x,hk,rfl,k,⟨o,v,by rw [e.1];omega,by rw [e.1];exact r,by rw [e.1];exact b⟩,by rw [e.1],rfl⟩;have b0:=(Uo (br:=br) (jp:=jp) e (.inr hl)).2.2.2.2;obtain ⟨B',b1,b2⟩:=s.link (by omega) F W b0 (jp*(k:Int));refine ⟨B',?_,b2.same (Nat.le_refl _) λp q d=>?_⟩
    ·rw [B9 rfl,ckb (by omega)];show ((Dl F ⟨W,B⟩ (pl (a,i)) (pl ((a+k)%n,i)) (jp*(k:Int))).bind λy=>Gj t0 k5 y.sets y.bonds)=_;rw [b1,sb]
    ·unfold A63;constructor
     ·rintro (h|⟨rfl,rfl,rfl⟩)
      ·exact .inl h
      ·exact .inr ⟨rfl,hl⟩
     ·rintro (h|⟨rfl,g1,g2,g3,k2,g4,g5,g6⟩)
      ·exact .inl h
      ·have b3:k2=k:=by
        obtain ⟨f1,f2,f3,f4,f5⟩:=g4;rw [e.1] at f3 f4 f5;rcases Nat.lt_trichotomy k2 k with g|g|g
        ·have:=b k2 f1 g;rw [this] at f4;cases f4
        ·exact g
        ·have:=f5 k o g;rw [this] at r;cases r
       subst b3;refine .inr ⟨rfl,?_,g6⟩;rw [e.1] at g5;exact Prod.ext g5 g3.symm
   | false =>
    rw [Au rfl,ckb (by omega),Tn];exact ih N (k+1) (by omega) (by omega) (by omega) (λk' q1 q2=>by
     by_cases b4:k'=k
     ·subst b4;exact r
     ·exact b k' q1 (by omega))
  ·rw [Au (by simp only [decide_eq_false_iff_not];split<;>omega)];exact ⟨B,rfl,s.same (by omega) λp q d=>⟨.inl,λh=>h.elim id λh=>absurd h (f k (.inl (by omega)) b p q d)⟩⟩
theorem B05 {T:Mg} {u:Nat} (h0:0<u) (f:u<(Kn T).length) {x y:Nat}:(lk T br x y/\y=kn T u)↔(x=kn T (u-1)/\y=kn T u/\((kn T u:Nat):Int)-(kn T (u-1):Nat)<=br):=by
 have c:=Qd.1 (Qk f).1;have b:=Qd.1 (Qk (S:=T) (t:=u-1) (by omega)).1;have d:=A4n (S:=T) (t:=u-1) (u:=u) (by omega) f;have e:∀x,kn T (u-1)<x->x<kn T u->ne T x=false:=λx g i=>A67 (S:=T) (t:=u-1) (by omega) g (by rw [show u-1+1=u by omega];exact i);constructor
 ·rintro ⟨⟨g1,g2,g3,g4,g5,g6⟩,rfl⟩;have j:x=kn T (u-1):=by
   rcases Nat.lt_trichotomy x (kn T (u-1)) with h|h|h
   ·have:=g5 _ h d;rw [this] at b;exact absurd b.2 (by simp)
   ·exact h
   ·have:=e x h g1;rw [this] at g3;cases g3
  subst j;exact ⟨rfl,rfl,g6⟩
 ·rintro ⟨rfl,rfl,k⟩;exact ⟨⟨d,c.1,b.2,c.2,e,k⟩,rfl⟩
def QW (S:Rays) (br jp:Int) (a t:Nat):Lnk:=λp q d=>p.1=a/\((LA S br jp p q d/\∃u,t<=u/\u<(Kn (S.getD a [])).length/\q.2=kn (S.getD a []) u)\/(LO S br jp p q d/\∃u,t<=u/\u<(Kn (S.getD a [])).length/\p.2=kn (S.getD a []) u))
theorem A7n (hF:FF<=F) (hS:Shape S n m) (hn:n<=1000) (hm:m<=1000) (hj:0<=jp/\jp<=400000) (hb:br<=16) {a:Nat} (ha:a<n) (k2:Rays->Bonds->Int->Option fold_web) (W:Rays) :
  ∀(s N t:Nat) (P:Lnk) (B:Bonds) (c:Nat),t+s=(Kn (S.getD a [])).length->s<N->WI P B c->c+2*s<=10000000 ->
  ∃B',De F S jp br (a:Int) k2 (S.getD a []) (toI (Kn (S.getD a []))) N W B (t:Int)=Fi F (a:Int) k2 (S.getD a []) W B'/\WI (λp q d=>P p q d\/QW S br jp a t p q d) B' (c+2*s):=by
 have b5:a<S.length:=by rw [hS.1];exact ha
 have j:=hS.row ha;have d0:=Ws (S:=S.getD a []);have r:(toI (Kn (S.getD a []))).length=(Kn (S.getD a [])).length:=by unfold toI;rw [List.length_map]
 have b6:=hF;unfold FF at b6;intro s
 induction s with
 | zero =>
  intro N t P B c b7 hN v hc;obtain ⟨N,rfl⟩:∃N',N=N'+1:=⟨N-1,by omega⟩;refine ⟨B,?_,v.same (by omega) λp q d=>⟨.inl,λh=>h.elim id λh=>?_⟩⟩
  ·show Gh F S jp br (a:Int) k2 (S.getD a []) (toI (Kn (S.getD a []))) (De F S jp br (a:Int) k2 (S.getD a []) (toI (Kn (S.getD a []))) N) W B (t:Int)=_;unfold Gh;rw [r,Au (by simp only [decide_eq_false_iff_not];omega)]
  ·obtain ⟨_,⟨_,u,u1,u2,_⟩|⟨_,u,u1,u2,_⟩⟩:=h<;>omega
 | succ s ih =>
  intro N t P B c b7 hN v hc;obtain ⟨N,rfl⟩:∃N',N=N'+1:=⟨N-1,by omega⟩;have s1:De F S jp br (a:Int) k2 (S.getD a []) (toI (Kn (S.getD a []))) (N+1) W B (t:Int)=Gh F S jp br (a:Int) k2 (S.getD a []) (toI (Kn (S.getD a []))) (De F S jp br (a:Int) k2 (S.getD a []) (toI (Kn (S.getD a []))) N) W B (t:Int):=rfl;rw [s1];have g:t<(Kn (S.getD a [])).length:=by omega
  have k:=Qd.1 (Qk g).1;rw [j] at k;have fin:∀(P1:Lnk) (B1:Bonds),WI P1 B1 (c+1)->(∀p q d,P1 p q d↔P p q d\/(p.1=a/\LA S br jp p q d/\q.2=kn (S.getD a []) t)) ->
    ∃B',Hu F S jp br (a:Int) (t:Int) (De F S jp br (a:Int) k2 (S.getD a []) (toI (Kn (S.getD a []))) N) ((kn (S.getD a []) t:Nat):Int) W B1=Fi F (a:Int) k2 (S.getD a []) W B'/\WI (λp q d=>P p q d\/QW S br jp a t p q d) B' (c+2*(s+1)):=by
   intro P1 B1 b8 b9;unfold Hu;obtain ⟨B2,b1,b2⟩:=A0s (F:=F) hS hn hm hj hb ha k.1 k.2 (De F S jp br (a:Int) k2 (S.getD a []) (toI (Kn (S.getD a []))) N) (t:Int) W b8 (by omega) (n-1) F 1 (by omega) (by omega) (by omega) (λk' f b=>by omega);rw [show ((1:Nat):Int)=1 from rfl] at b1;rw [b1];unfold Gj;rw [ckb (by omega),Tn];obtain ⟨B3,c1,c2⟩:=ih N (t+1) _ B2 (c+1+1) (by omega) (by omega) b2 (by omega);refine ⟨B3,c1,c2.same (by omega) λp q d=>?_⟩;rw [b9];constructor
   ·rintro (((h|⟨f,b,i⟩)|⟨rfl,b⟩)|⟨f,⟨b,u,u1,u2,u3⟩|⟨b,u,u1,u2,u3⟩⟩)
    ·exact .inl h
    ·exact .inr ⟨f,.inl ⟨b,t,Nat.le_refl _,g,i⟩⟩
    ·exact .inr ⟨rfl,.inr ⟨b,t,Nat.le_refl _,g,rfl⟩⟩
    ·exact .inr ⟨f,.inl ⟨b,u,by omega,u2,u3⟩⟩
    ·exact .inr ⟨f,.inr ⟨b,u,by omega,u2,u3⟩⟩
   ·rintro (h|⟨f,⟨b,u,u1,u2,u3⟩|⟨b,u,u1,u2,u3⟩⟩)
    ·exact .inl (.inl (.inl h))
    ·by_cases l:u=t
     ·subst l;exact .inl (.inl (.inr ⟨f,b,u3⟩))
     ·exact .inr ⟨f,.inl ⟨b,u,by omega,u2,u3⟩⟩
    ·by_cases l:u=t
     ·subst l;exact .inl (.inr ⟨Prod.ext f u3,b⟩)
     ·exact .inr ⟨f,.inr ⟨b,u,by omega,u2,u3⟩⟩
  unfold Gh;rw [r,B9 (by simp only [decide_eq_true_eq];omega),A4d g]
  by_cases c0:t=0
  ·subst c0;have eg:((decide (((0:Nat):Int)>0))==true&&true)=false:=by simp
   rw [gdF eg,sb,gdF eg,sb,gdF eg,sb];rw [Au (by simp)];refine fin P B (v.same (by omega) λ_ _ _=>Iff.rfl) λp q d=>⟨.inl,λh=>h.elim id ?_⟩;rintro ⟨rfl,⟨f,b,i,h4⟩,h5⟩;exfalso;have:=A3n (S:=S.getD p.1 []) (by omega) (by rw [←h5];exact i.1);have h6:=i.2.2.1;rw [this] at h6;cases h6
  ·have eg:((decide ((t:Int)>0))==true&&true)=true:=by simp;omega
   have e1:((t:Int)-1)=((t-1:Nat):Int):=by omega
   have c4:=Qd.1 (Qk (S:=S.getD a []) (t:=t-1) (by omega)).1;rw [j] at c4;have d3:=A4n (S:=S.getD a []) (t:=t-1) (u:=t) (by omega) g;rw [gdT eg,ckb (by omega),e1,gdT eg,A4d (by omega),gdT eg,ckb (by omega)];have e2:decide ((t:Int)>0)=true:=by simp;omega
   rw [e2];have o:=λ{x y:Nat}=>B05 (br:=br) (T:=S.getD a []) (u:=t) (by omega) g (x:=x) (y:=y)
   by_cases hd:((kn (S.getD a []) t:Nat):Int)-((kn (S.getD a []) (t-1):Nat):Int)<=br
   ·have e3:(bif true then (decide (((kn (S.getD a []) t:Nat):Int)-((kn (S.getD a []) (t-1):Nat):Int)<=br)) else false)=true:=by rw [cond_true];simpa using hd
    rw [e3];refine (congrArg (λz=>∃B',z=Fi F (a:Int) k2 (S.getD a []) W B'/\WI (λp q d=>P p q d\/QW S br jp a t p q d) B' (c+2*(s+1))) (B9 rfl)).mpr ?_;have d4:0<=jp*(((kn (S.getD a []) t:Nat):Int)-((kn (S.getD a []) (t-1):Nat):Int))/\jp*(((kn (S.getD a []) t:Nat):Int)-((kn (S.getD a []) (t-1):Nat):Int))<=1000000000:=by
     have q1:=Int.mul_nonneg hj.1 (show (0:Int)<=((kn (S.getD a []) t:Nat):Int)-((kn (S.getD a []) (t-1):Nat):Int) by omega);have q2:jp*(((kn (S.getD a []) t:Nat):Int)-((kn (S.getD a []) (t-1):Nat):Int))<=400000*16:=Int.mul_le_mul hj.2 (by omega) (by omega) (by omega);omega
    have c5:((a,kn (S.getD a []) (t-1)):Pl)≠(a,kn (S.getD a []) t):=λe=>by simp only [Prod.mk.injEq] at e;omega
    obtain ⟨B1,b1,b2⟩:=v.link (by omega) F W c5 (jp*(((kn (S.getD a []) t:Nat):Int)-((kn (S.getD a []) (t-1):Nat):Int)));rw [ckb (by omega),A4d (by omega),ckb (by omega),A4d (by omega),ckb (by omega),ckb (by omega)];have b1':Dl F { sets:=W,bonds:=B } { ray:=(a:Int),gate:=((kn (S.getD a []) (t-1):Nat):Int) } { ray:=(a:Int),gate:=((kn (S.getD a []) t:Nat):Int) } (jp*(((kn (S.getD a []) t:Nat):Int)-((kn (S.getD a []) (t-1):Nat):Int)))=some ⟨W,B1⟩:=b1;rw [b1',sb];refine fin _ B1 b2 λp q d=>?_;unfold A63;constructor
    ·rintro (h|⟨rfl,rfl,rfl⟩)
     ·exact .inl h
     ·exact .inr ⟨rfl,⟨rfl,b5,(o.2 ⟨rfl,rfl,hd⟩).1,rfl⟩,rfl⟩
    ·rintro (h|⟨h0,⟨f,b,i,h4⟩,h5⟩)
     ·exact .inl h
     ·rw [h0] at i;obtain ⟨g1,g2,g3⟩:=o.1 ⟨i,h5⟩;refine .inr ⟨Prod.ext h0 g1,Prod.ext (f▸h0) g2,?_⟩;rw [h4,g1,g2]
   ·have e3:(bif true then (decide (((kn (S.getD a []) t:Nat):Int)-((kn (S.getD a []) (t-1):Nat):Int)<=br)) else false)=false:=by rw [cond_true];simpa using hd
    rw [e3];refine (congrArg (λz=>∃B',z=Fi F (a:Int) k2 (S.getD a []) W B'/\WI (λp q d=>P p q d\/QW S br jp a t p q d) B' (c+2*(s+1))) (Au rfl)).mpr ?_;refine fin P B (v.same (by omega) λ_ _ _=>Iff.rfl) λp q d=>⟨.inl,λh=>h.elim id ?_⟩;rintro ⟨h0,⟨f,b,i,h4⟩,h5⟩;rw [h0] at i;exact absurd (o.1 ⟨i,h5⟩).2.2 hd
theorem A88 (g:Shape S n m) {a:Nat} (p q:Pl) (d:Int):QW S br jp a 0 p q d↔p.1=a/\LL S br jp p q d:=by
 unfold QW LL;constructor
 ·rintro ⟨h,⟨b,_⟩|⟨b,_⟩⟩
  ·exact ⟨h,.inl b⟩
  ·exact ⟨h,.inr b⟩
 ·rintro ⟨rfl,h|h⟩
  ·obtain ⟨b,c,e,f⟩:=h;obtain ⟨u,u1,u2⟩:=Wg (S:=S.getD p.1 []) e.2.1 e.2.2.2.1;exact ⟨rfl,.inl ⟨⟨b,c,e,f⟩,u,Nat.zero_le _,u1,u2.symm⟩⟩
  ·have c:=h.2.1;obtain ⟨u,u1,u2⟩:=Wg (S:=S.getD p.1 []) (A1h c) c;exact ⟨rfl,.inr ⟨h,u,Nat.zero_le _,u1,u2.symm⟩⟩
theorem A7m (j:FF<=F) (b:Shape S n m) (v:n<=1000) (x:m<=1000) (hj:0<=jp/\jp<=400000) (hb:br<=16) :
  ∀(t N a:Nat) (P:Lnk) (B:Bonds) (c:Nat),a+t=n->t<N->WI P B c->c+t*(2*m)<=9000000 ->
  ∃B',Ej F S jp br N (S.take a) B (a:Int)=some ⟨S,B'⟩/\WI (λp q d=>P p q d\/(a<=p.1/\LL S br jp p q d)) B' (c+t*(2*m)):=by
 have k:=j;unfold FF at k;intro t
 induction t with
 | zero =>
  intro N a P B c l y o s;obtain ⟨N,rfl⟩:∃N',N=N'+1:=⟨N-1,by omega⟩;refine ⟨B,?_,o.same (by omega) λp q d=>⟨.inl,λh=>h.elim id λh=>?_⟩⟩
  ·show Gg F S jp br (Ej F S jp br N) (S.take a) B (a:Int)=_;unfold Gg;rw [b.1,Au (by simp;omega),List.take_of_length_le (by rw [b.1];omega)];rfl
  ·have:=Uo b h.2;omega
 | succ t ih =>
  intro N a P B c l y o s;obtain ⟨N,rfl⟩:∃N',N=N'+1:=⟨N-1,by omega⟩;have s1:Ej F S jp br (N+1) (S.take a) B (a:Int)=Gg F S jp br (Ej F S jp br N) (S.take a) B (a:Int):=rfl;rw [s1];have i:a<S.length:=by rw [b.1];omega
  have f:=b.row (a:=a) (by omega);have z:=Ws (S:=S.getD a []);rw [Nat.add_mul] at s;unfold Gg;rw [b.1,B9 (by simp;omega),A2b i,Yg j (by rw [f];omega),sb];obtain ⟨B1,b1,b2⟩:=A7n j b v x hj hb (a:=a) (by omega) (Ej F S jp br N) (S.take a) (Kn (S.getD a [])).length F 0 P B c (by omega) (by omega) o (by omega);rw [show ((0:Nat):Int)=0 from rfl] at b1;rw [b1];unfold Fi Bu M7;have ht:(S.take a).length=a:=by rw [List.length_take];omega
  rw [Ky (by rw [f];simp;omega),sb,List.nil_append,Ky (by rw [ht];simp;omega),ckb (by omega),Tn];have e:S.take a++[S.getD a []]=S.take (a+1):=by
   rw [List.take_add_one]
   congr 1
   rw [List.getD_eq_getElem?_getD,List.getElem?_eq_getElem i];rfl
  rw [e];obtain ⟨B2,c1,c2⟩:=ih N (a+1) _ B1 (c+2*m) (by omega) (by omega) (b2.same (by omega) λ_ _ _=>Iff.rfl) (by omega);refine ⟨B2,c1,c2.same (by rw [Nat.add_mul];omega) λp q d=>?_⟩;rw [A88 b];constructor
  ·rintro ((h|⟨u,g⟩)|⟨u,g⟩)
   ·exact .inl h
   ·exact .inr ⟨by omega,g⟩
   ·exact .inr ⟨by omega,g⟩
  ·rintro (h|⟨u,g⟩)
   ·exact .inl (.inl h)
   ·by_cases r:p.1=a
    ·exact .inl (.inr ⟨r,g⟩)
    ·exact .inr ⟨by omega,g⟩
theorem A5y (e:FF<=F) (g:Shape S n m) (f:n<=1000) (i:m<=1000) (hj:0<=jp/\jp<=400000) (hb:br<=16) :
  ∃B,Ps F S jp br=some ⟨S,B⟩/\WI (LL S br jp) B 9000000:=by
 have c:=e;unfold FF at c;have j:n*(2*m)<=1000*(2*1000):=Nat.mul_le_mul f (by omega);obtain ⟨B,b1,b2⟩:=A7m e g f i hj hb n F 0 (λ_ _ _=>False) [] 0 (by omega) (by omega) ⟨λr=>by simp [Bd,lkM],λp q d=>by simp [Bd,lkM,both],λr b hb=>by simp [Bd,lkM] at hb⟩ (by omega);refine ⟨B,b1,b2.same (by omega) λp q d=>⟨λh=>h.elim False.elim λh=>h.2,λh=>.inr ⟨Nat.zero_le _,h⟩⟩⟩
end
theorem nb:(none:Option α).bind f=none:=rfl
abbrev Waits:=List (fold_place×Bool)
structure TI (B:Waits) (todo:List fold_place):Prop where
 nd:keysNd B
 inl:∀r,(lkM B r).getD false=true->r∈todo
theorem A1u (F:Nat) (r:fold_place) {B:Waits} {todo:List fold_place} (h:TI B todo) (c:todo.length<=8000000000000):∃B' todo',Dd F r B todo=some (B',todo')/\TI B' todo'/\r∈todo'/\(∀x,x∈todo->x∈todo')/\(∀x,x∈todo'->x∈todo\/x=r)/\todo'.length<=todo.length+1:=by
 unfold Dd
 cases hb:(lkM B r).getD false with
 | true =>
  refine ⟨B,todo,Au rfl,h,h.inl r hb,λ_ h=>h,λ_ h=>.inl h,by omega⟩
 | false =>
  refine ⟨upM B r true,todo++[r],?_,⟨B0o h.nd r true,λx b=>?_⟩,by simp,λx b=>by simp [b],λx b=>by simpa using b,by simp⟩
  ·refine (B9 rfl).trans ?_;rw [Ky (by simp;omega)]
  ·rw [A1e] at b
   split at b
   ·rename_i e;simp [e]
   ·simp [h.inl x b]
section
theorem Xu (m:FF<=F) {a:Nat} {T:Mg} (n:T.length<=1000) (k6:List fold_place->Waits->Int->Option Rays) (x:Int):∀(s N t:Nat) (B:Waits) (todo:List fold_place),t+s=(Kn T).length->s<N->TI B todo->todo.length+s<=2000000 ->
  ∃B' todo',Dj F (a:Int) k6 (toI (Kn T)) N todo B (t:Int)=Jg (a:Int) k6 todo' B'/\TI B' todo'/\(∀x,x∈todo->x∈todo')/\(∀u,t<=u->u<(Kn T).length->pl (a,kn T u)∈todo')/\(∀x,x∈todo'->x∈todo\/∃u,u<(Kn T).length/\x=pl (a,kn T u))/\todo'.length<=todo.length+s:=by
 have b:(toI (Kn T)).length=(Kn T).length:=by unfold toI;rw [List.length_map]
 have i:=Ws (S:=T);intro s
 induction s with
 | zero =>
  intro N t B todo c j d k;obtain ⟨N,rfl⟩:∃N',N=N'+1:=⟨N-1,by omega⟩;refine ⟨B,todo,?_,d,λ_ h=>h,λu l g=>by omega,λ_ h=>.inl h,by omega⟩;show Fz F (a:Int) k6 (toI (Kn T)) (Dj F (a:Int) k6 (toI (Kn T)) N) todo B (t:Int)=_;unfold Fz;rw [b,Au (by simp;omega)]
 | succ s ih =>
  intro N t B todo c j d k;obtain ⟨N,rfl⟩:∃N',N=N'+1:=⟨N-1,by omega⟩;have s1:Dj F (a:Int) k6 (toI (Kn T)) (N+1) todo B (t:Int)=Fz F (a:Int) k6 (toI (Kn T)) (Dj F (a:Int) k6 (toI (Kn T)) N) todo B (t:Int):=rfl;rw [s1];obtain ⟨B1,t1,w1,w2,w3,w4,w5,w6⟩:=A1u F (pl (a,kn T t)) d (by omega);obtain ⟨B2,t2,g1,g2,g3,g4,g5,g6⟩:=ih N (t+1) B1 t1 (by omega) (by omega) w2 (by omega);refine ⟨B2,t2,?_,g2,λx e=>g3 x (w4 x e),λu l g=>?_,λx e=>?_,by omega⟩
  ·rw [←g1];unfold Fz;rw [b,B9 (by simp;omega),A4d (by omega)];show ((Dd F (pl (a,kn T t)) B todo).bind λy=>(ck ((t:Int)+1)).bind λz=>Dj F (a:Int) k6 (toI (Kn T)) N y.2 y.1 z)=_;rw [w1,sb,ckb (by omega),Tn]
  ·by_cases f:u=t
   ·subst f;exact g3 _ w3
   ·exact g4 u (by omega) g
  ·rcases g5 x e with h|h
   ·rcases w5 x h with h|h
    ·exact .inl h
    ·exact .inr ⟨t,by omega,h⟩
   ·exact .inr h
theorem A20 (k:FF<=F) (i:Shape S n m) (hn:n<=1000) (y:m<=1000) (y5:fold_web):∀(t N a:Nat) (B:Waits) (todo:List fold_place),a+t=n->t<N->TI B todo->todo.length+t*m<=2000000->(∀x,x∈todo->∃p:Pl,x=pl p/\p.1<n/\p.2<m) ->
  (∀p:Pl,p.1<a->ne (S.getD p.1 []) p.2=true->pl p∈todo) ->
  ∃B' todo',Di F S y5 N todo B (a:Int)=Jf F y5 todo' B'/\TI B' todo'/\(∀x,x∈todo'->∃p:Pl,x=pl p/\p.1<n/\p.2<m)/\(∀p:Pl,p.1<n->ne (S.getD p.1 []) p.2=true->pl p∈todo')/\todo'.length<=todo.length+t*m:=by
 have l:=k;unfold FF at l;intro t
 induction t with
 | zero =>
  intro N a B todo o z q v e c;obtain ⟨N,rfl⟩:∃N',N=N'+1:=⟨N-1,by omega⟩;refine ⟨B,todo,?_,q,e,λp j f=>c p (by omega) f,by omega⟩;show Fy F S y5 (Di F S y5 N) todo B (a:Int)=_;unfold Fy;rw [i.1,Au (by simp;omega)]
 | succ t ih =>
  intro N a B todo o z q v e c;obtain ⟨N,rfl⟩:∃N',N=N'+1:=⟨N-1,by omega⟩;have s1:Di F S y5 (N+1) todo B (a:Int)=Fy F S y5 (Di F S y5 N) todo B (a:Int):=rfl;rw [s1];have r:a<S.length:=by rw [i.1];omega
  have b:=i.row (a:=a) (by omega);have s:=Ws (S:=S.getD a []);rw [b] at s;rw [Nat.add_mul] at v;obtain ⟨B1,t1,w1,w2,w3,w4,w5,w6⟩:=Xu k (a:=a) (T:=S.getD a []) (by rw [b];exact y) (Di F S y5 N) 0 (Kn (S.getD a [])).length F 0 B todo (by omega) (by omega) q (by omega);obtain ⟨B2,t2,g1,g2,g3,g4,g5⟩:=ih N (a+1) B1 t1 (by omega) (by omega) w2 (by omega) (λx hx=>by
   rcases w5 x hx with h|⟨u,j,f⟩
   ·exact e x h
   ·have:=(Qd.1 (Qk j).1).1;rw [b] at this;exact ⟨(a,kn (S.getD a []) u),f,by show a<n;omega,this⟩) (λp hp d=>by
   by_cases g:p.1=a
   ·rw [g] at d;obtain ⟨u,j,f⟩:=Wg (A1h d) d;have:=w4 u (Nat.zero_le _) j;rw [f,←g] at this;exact this
   ·exact w3 _ (c p (by omega) d))
  refine ⟨B2,t2,?_,g2,g3,g4,by rw [Nat.add_mul];omega⟩;rw [←g1];unfold Fy;rw [i.1,B9 (by simp;omega),A2b r,Yg k (by rw [b];omega),sb];rw [show ((0:Nat):Int)=0 from rfl] at w1;rw [w1];unfold Jg;rw [ckb (by omega),Tn]
structure MI (S:Rays) (R:Lnk) (n m:Nat) (W:Rays) (todo:List fold_place) (B:Waits):Prop where
 inv:Inv S R n m W
 ti:TI B todo
 inr:∀x,x∈todo->∃p:Pl,x=pl p/\p.1<n/\p.2<m
theorem A0l (hF:FF<=F) (hR:∀p q d,both R p q d->0<=d/\d<=1000000000/\p.1<n/\p.2<m/\q.1<n/\q.2<m) {B0:Bonds} {c0:Nat} (s:WI R B0 c0) (c7:c0<=9000000) (S0:Rays) (p:Pl) (hp:p.1<n/\p.2<m) (k3:List fold_place->Rays->Waits->Option Rays) :
  ∀(t N k:Nat) (W:Rays) (todo:List fold_place) (B:Waits),k+t=(Bd B0 (pl p)).length->t<N->MI S R n m W todo B->todo.length+t<=5000000000000 ->
  (∀r q d,both R r q d->pl r∈todo\/Zj (gf W) r q d\/(r=p/\(⟨pl q,d⟩:fold_bond)∈(Bd B0 (pl p)).drop k)) ->
  ∃W' todo' B',C5 F ⟨S0,B0⟩ k3 (pl p) N todo W B (k:Int)=k3 todo' W' B'/\MI S R n m W' todo' B'/\(∀r q d,both R r q d->pl r∈todo'\/Zj (gf W') r q d)/\todo'.length+Vol W'<=todo.length+Vol W:=by
 have c3:=s.len (pl p);intro t
 induction t with
 | zero =>
  intro N k W todo B hk hN j hl hs;obtain ⟨N,rfl⟩:∃N',N=N'+1:=⟨N-1,by omega⟩;refine ⟨W,todo,B,?_,j,λr q d h=>?_,Nat.le_refl _⟩
  ·show Et F ⟨S0,B0⟩ k3 (pl p) (C5 F ⟨S0,B0⟩ k3 (pl p) N) todo W B (k:Int)=_;unfold Et;refine Au ?_;show decide ((k:Int)<(((Bd B0 (pl p)).length:Nat):Int))=false;simp;omega
  ·rcases hs r q d h with h|h|⟨_,h⟩
   ·exact .inl h
   ·exact .inr h
   ·rw [List.drop_eq_nil_of_le (by omega)] at h;cases h
 | succ t ih =>
  intro N k W todo B hk hN j hl hs;obtain ⟨N,rfl⟩:∃N',N=N'+1:=⟨N-1,by omega⟩;have s1:C5 F ⟨S0,B0⟩ k3 (pl p) (N+1) todo W B (k:Int)=Et F ⟨S0,B0⟩ k3 (pl p) (C5 F ⟨S0,B0⟩ k3 (pl p) N) todo W B (k:Int):=rfl;rw [s1];have u:k<(Bd B0 (pl p)).length:=by omega
  have f:(Bd B0 (pl p))[k]∈Bd B0 (pl p):=List.getElem_mem u;obtain ⟨p',q,e1,e2⟩:=s.form _ _ f;obtain ⟨d,hd⟩:∃d,(Bd B0 (pl p))[k]=⟨pl q,d⟩:=by
   refine ⟨(Bd B0 (pl p))[k].most,?_⟩;rw [←e2]
  rw [hd] at f;have b3:both R p q d:=(s.iff p q d).1 f;obtain ⟨d1,d2,d3,d4,d5,d6⟩:=hR p q d b3;have g:(Bd B0 (pl p)).drop k=⟨pl q,d⟩::(Bd B0 (pl p)).drop (k+1):=by rw [List.drop_eq_getElem_cons u,hd]
  have l:=j.inv.good.good;have c4:Good (nr (gf W q) (gf W p) d):=(l q).nr (l p) d1;have c5:=(l q).len;have b4:Ax ((lkM B0 (pl p)).getD []) (k:Int)=some ⟨pl q,d⟩:=by
   show Ax (Bd B0 (pl p)) (k:Int)=_;unfold Ax;rw [if_pos (by omega),Int.toNat_natCast,List.getElem?_eq_getElem u,hd]
  have b:=j.inv.shape;have key:Et F ⟨S0,B0⟩ k3 (pl p) (C5 F ⟨S0,B0⟩ k3 (pl p) N) todo W B (k:Int) =
    if gf W q=nr (gf W q) (gf W p) d then C5 F ⟨S0,B0⟩ k3 (pl p) N todo W B ((k+1:Nat):Int)
    else (Dd F (pl q) B todo).bind λy=>C5 F ⟨S0,B0⟩ k3 (pl p) N y.2 (sf W q (nr (gf W q) (gf W p) d)) y.1 ((k+1:Nat):Int):=by
   unfold Et;have e3:decide ((k:Int)<((((lkM B0 (pl p)).getD []).length:Nat):Int))=true:=by
    show decide ((k:Int)<(((Bd B0 (pl p)).length:Nat):Int))=true;simp;omega
   refine (B9 e3).trans ?_;show ((Ax ((lkM B0 (pl p)).getD []) (k:Int)).bind _)=_;rw [b4,sb];show ((Ax W (q.1:Int)).bind λu3280=>(Ax u3280 (q.2:Int)).bind λu3288=>(Ax W (p.1:Int)).bind λu3295=>(Ax u3295 (p.2:Int)).bind λu3303=>(E8 F u3288 u3303 d).bind λy3311=>(Bo F u3288 y3311).bind λy3314 =>
    bif (!y3314) then ((Ax W (q.1:Int)).bind λu3315=>(Ax u3315 (q.2:Int)).bind λu3323=>(J5 u3315 (q.2:Int) y3311).bind λl3334=>(J5 W (q.1:Int) l3334).bind λl3335=>(Dd F (pl q) B todo).bind λy3338=>Eu (k:Int) (C5 F ⟨S0,B0⟩ k3 (pl p) N) y3338.2 l3335 y3338.1) else (Eu (k:Int) (C5 F ⟨S0,B0⟩ k3 (pl p) N) todo W B))=_
   have r1:=b.row d5;have r2:=b.row d3;rw [A2b (by rw [b.1];exact d5),A4c (by rw [r1];exact d6),A2b (by rw [b.1];exact d3),A4c (by rw [r2];exact d4)];have c1:=A6t hF (l q) (l p) ⟨d1,d2⟩;have b5:E8 F (gt (W.getD q.1 []) q.2) (gt (W.getD p.1 []) p.2) d=some (nr (gf W q) (gf W p) d):=c1;rw [b5,sb,K6 hF _ _ (by show (gf W q).length<=_;omega),sb]
   by_cases he:gf W q=nr (gf W q) (gf W p) d
   ·have e4:decide (gt (W.getD q.1 []) q.2=nr (gf W q) (gf W p) d)=true:=decide_eq_true he;rw [e4,if_pos he];refine (Au rfl).trans ?_;unfold Eu;rw [ckb (by omega),Tn]
   ·have e4:decide (gt (W.getD q.1 []) q.2=nr (gf W q) (gf W p) d)=false:=decide_eq_false he;rw [e4,if_neg he];unfold sf;refine (B9 rfl).trans ?_;rw [A2b (by rw [b.1];exact d5),A4c (by rw [r1];exact d6),B13 (by rw [r1];exact d6),B14 (by rw [b.1];exact d5)];generalize Dd F (pl q) B todo=o
    cases o with
    | none=>rw [nb,nb]
    | some y =>
     rw [sb,sb];unfold Eu;rw [ckb (by omega),Tn]
  rw [key]
  by_cases he:gf W q=nr (gf W q) (gf W p) d
  ·rw [if_pos he];refine ih N (k+1) W todo B (by omega) (by omega) j (by omega) λr q' d' h=>?_;rcases hs r q' d' h with h|h|⟨h1,v⟩
   ·exact .inl h
   ·exact .inr (.inl h)
   ·rw [g] at v;rcases List.mem_cons.1 v with c|c
    ·clear v
     simp only [fold_bond.mk.injEq] at c;have b0:=Qp c.1;have hd':=c.2
     clear c
     subst b0 hd' h1;exact .inr (.inl ((A6v l d1).1 he.symm))
    ·exact .inr (.inr ⟨h1,c⟩)
  ·rw [if_neg he];obtain ⟨B1,t1,w1,w2,w3,w4,w5,w6⟩:=A1u F (pl q) j.ti (by omega);rw [w1,sb];obtain ⟨i1,i2⟩:=j.inv.step (p:=p) (q:=q) d1 ⟨d5,d6⟩ b3;have hv:=i2 (λe=>he e.symm);have b1:=A4e (x:=nr (gf W q) (gf W p) d) b ⟨d5,d6⟩;obtain ⟨W',t',B',g1,g2,g3,g4⟩:=ih N (k+1) _ t1 B1 (by omega) (by omega) ⟨i1,w2,λx hx=>by
    rcases w5 x hx with h|h
    ·exact j.inr x h
    ·exact ⟨q,h,d5,d6⟩⟩ (by omega) (λr q' d' h=>by
    by_cases b7:r=q
    ·subst b7;exact .inl w3
    ·have b8:∀x:Pl,∀z,mem z (gf (sf W q (nr (gf W q) (gf W p) d)) x)->mem z (gf W x):=by rw [b1];exact Ym l d1
     have i:gf (sf W q (nr (gf W q) (gf W p) d)) r=gf W r:=by rw [b1];unfold Zf;rw [if_neg b7]
     rcases hs r q' d' h with h|h|⟨h1,v⟩
     ·exact .inl (w4 _ h)
     ·refine .inr (.inl λz hz=>?_);rw [i];exact h z (b8 q' z hz)
     ·rw [g] at v;rcases List.mem_cons.1 v with c|c
      ·clear v
       simp only [fold_bond.mk.injEq] at c;have b0:=Qp c.1;have hd':=c.2
       clear c
       subst b0 hd' h1;refine .inr (.inl λz hz=>?_);rw [i];rw [b1] at hz;unfold Zf at hz;rw [if_pos rfl] at hz;exact ((Ry (l r).1.2 d1 z).1 hz).2
      ·exact .inr (.inr ⟨h1,c⟩))
   exact ⟨W',t',B',g1,g2,g3,by omega⟩
theorem Z4 (y:FF<=F) (hR:∀p q d,both R p q d->0<=d/\d<=1000000000/\p.1<n/\p.2<m/\q.1<n/\q.2<m) {B0:Bonds} {c0:Nat} (c:WI R B0 c0) (k:c0<=9000000) (S0:Rays) :
  ∀(v:Nat) (N:Nat) (W:Rays) (todo:List fold_place) (B:Waits),todo.length+Vol W<=v->v<N->v<=4000000000000->MI S R n m W todo B->(∀r q d,both R r q d->pl r∈todo\/Zj (gf W) r q d) ->
  ∃G,Dh F ⟨S0,B0⟩ N todo W B=some G/\Inv S R n m G/\Stable R (gf G):=by
 have l:=y;unfold FF at l;intro v
 induction v with
 | zero =>
  intro N W todo B z hN hV b i;obtain ⟨N,rfl⟩:∃N',N=N'+1:=⟨N-1,by omega⟩;have ht:todo=[]:=List.eq_nil_of_length_eq_zero (by omega);subst ht;refine ⟨W,?_,b.inv,λr q d h=>(i r q d h).elim (λh=>by cases h) id⟩
  show Es F ⟨S0,B0⟩ (Dh F ⟨S0,B0⟩ N) [] W B=_;unfold Es;rw [Au (by simp)];rfl
 | succ v ih =>
  intro N W todo B z hN hV b i;obtain ⟨N,rfl⟩:∃N',N=N'+1:=⟨N-1,by omega⟩;have s1:Dh F ⟨S0,B0⟩ (N+1) todo W B=Es F ⟨S0,B0⟩ (Dh F ⟨S0,B0⟩ N) todo W B:=rfl;rw [s1]
  cases todo with
  | nil =>
   refine ⟨W,?_,b.inv,λr q d h=>(i r q d h).elim (λh=>by cases h) id⟩
   unfold Es;rw [Au (by simp)];rfl
  | cons x rest =>
   obtain ⟨p,rfl,o,s⟩:=b.inr x (by simp);have b0:=c.len (pl p);simp only [List.length_cons] at z;have f:Ud (pl p::rest) 1 (((pl p::rest).length:Nat):Int)=some rest:=by
    unfold Ud;rw [if_pos ⟨by omega,by simp only [List.length_cons];omega,Int.le_refl _⟩]
    congr 1
    show (rest.drop 0).take ((((pl p::rest).length:Nat):Int).toNat-1)=rest;rw [List.drop_zero,Int.toNat_natCast,List.length_cons];exact List.take_of_length_le (by omega)
   have g:Ax (pl p::rest) 0=some (pl p):=rfl;unfold Es;rw [B9 (by simp),g,sb,f,sb];have t:TI (P6 B (pl p)) rest:=⟨A8i b.ti.nd _,λr j=>by
    rw [A8u b.ti.nd] at j
    split at j
    ·simp at j
    ·rename_i u
     rcases List.mem_cons.1 (b.ti.inl r j) with h|h
     ·exact absurd h u
     ·exact h⟩
   obtain ⟨W',t',B',g1,g2,g3,g4⟩:=A0l (S:=S) y hR c k S0 p ⟨o,s⟩ (Dh F ⟨S0,B0⟩ N) (Bd B0 (pl p)).length F 0 W rest (P6 B (pl p)) (by omega) (by omega) ⟨b.inv,t,λx hx=>b.inr x (by simp [hx])⟩ (by omega) (λr q d h=>by
    rcases i r q d h with e|e
    ·rcases List.mem_cons.1 e with e|e
     ·have:=Qp e;subst this;exact .inr (.inr ⟨rfl,by rw [List.drop_zero];exact (c.iff r q d).2 h⟩)
     ·exact .inl e
    ·exact .inr (.inl e))
   rw [show ((0:Nat):Int)=0 from rfl] at g1;rw [g1];exact ih N W' t' B' (by omega) (by omega) (by omega) g2 g3
theorem A2x (s:FS<=F) (c:Shape S n m) (u:AllG S) (i:n<=1000) (j:m<=1000) (hj:0<=jp/\jp<=400000) (hb:br<=16) :
  ∃G,Mk F S jp br=some G/\Inv S (LL S br jp) n m G/\Stable (LL S br jp) (gf G):=by
 have e:FF<=F:=by unfold FS at s;unfold FF;omega
 obtain ⟨B0,b1,b2⟩:=A5y e c i j hj hb;unfold Mk;rw [b1,sb];have o:=e;unfold FF at o;have v:n*m<=1000*1000:=Nat.mul_le_mul i j;obtain ⟨B1,t1,w1,w2,w3,w4,w5⟩:=A20 e c i j ⟨S,B0⟩ n F 0 [] [] (by omega) (by omega) ⟨.nil,λr y=>by simp [lkM] at y⟩ (by simp;omega) (λx z=>by cases z) (λp hp=>by omega)
 rw [show ((0:Nat):Int)=0 from rfl] at w1;rw [w1];unfold Jf;have hR:∀p q d,both (LL S br jp) p q d->0<=d/\d<=1000000000/\p.1<n/\p.2<m/\q.1<n/\q.2<m:=by
  rintro p q d (h|h)
  ·have b:=Uo c h;have f:=A9q c hj hb h;exact ⟨f.1,f.2,b.1,b.2.1,b.2.2.1,b.2.2.2.1⟩
  ·have b:=Uo c h;have f:=A9q c hj hb h;exact ⟨f.1,f.2,b.2.2.1,b.2.2.2.1,b.1,b.2.1⟩
 have hv:=A8b c;have hh:n*(m*HN)<=1000*(1000*HN):=Nat.mul_le_mul i (Nat.mul_le_mul j (Nat.le_refl _));have b3:=A7p;unfold FS at s;simp only [List.length_nil] at w5;refine Z4 e hR b2 (by omega) S (t1.length+Vol S) F S t1 B1 (Nat.le_refl _) (by omega) (by omega) ⟨⟨c,u,Below.refl _,λh _ hb=>hb⟩,w2,w3⟩ λr q d h=>.inl ?_;have g:∀p q d,LL S br jp p q d->ne (S.getD p.1 []) p.2=true/\ne (S.getD q.1 []) q.2=true:=by
  rintro p q d (⟨b,f,l,t⟩|⟨b,f,l,k,t,h5,h6⟩)
  ·exact ⟨l.2.2.1,by rw [←b];exact l.2.2.2.1⟩
  ·exact ⟨f,by rw [h5,←l];exact t.2.2.2.1⟩
 rcases h with h|h
 ·exact w4 r (Uo c h).1 (g _ _ _ h).1
 ·exact w4 r (Uo c h).2.2.1 (g _ _ _ h).2
end
theorem A15 {m:Int} (e:30000<=t.Lambda) (f:1<=us t w/\us t w<=2999) (g:1<=m/\m<=60000) (b:turnB (stepOf x w)=true):¬A3m t x m w:=by
 unfold turnB at b;simp only [decide_eq_true_eq] at b;have c:0<65536*us t w:=by omega
 rintro (h|h)<;>unfold isw spw Ka spd at h<;>simp only [decide_eq_true_eq] at h
 ·have d:60001<=-(500*t.Lambda*((stepOf x w).Hi + -64*65536))/(65536*us t w):=by
   apply Int.le_ediv_of_mul_le c;have:500*t.Lambda*((stepOf x w).Hi + -64*65536)<=500*t.Lambda*(-4096002):=Int.mul_le_mul_of_nonneg_left (by omega) (by omega);omega
  split at h<;>split at h<;>omega
 ·have d:60001<=500*t.Lambda*((stepOf x w).Lo+64*65536)/(65536*us t w):=by
   apply Int.le_ediv_of_mul_le c;have:500*t.Lambda*4161536<=500*t.Lambda*((stepOf x w).Lo+64*65536):=Int.mul_le_mul_of_nonneg_left (by omega) (by omega);omega
  split at h<;>split at h<;>omega
theorem Sv {x:Int} (b:0<=x) (c:0<y):Ht x y=some (x%y):=by
 unfold Ht;rw [if_neg (by omega),Int.tmod_eq_emod_of_nonneg b]
theorem A0z (a b:api_Span):a.Lo<=(Ka a b).Lo/\(Ka a b).Hi<=a.Hi/\b.Lo<=(Ka a b).Lo/\(Ka a b).Hi<=b.Hi:=by
 unfold Ka;simp only;refine ⟨?_,?_,?_,?_⟩<;>split<;>omega
def hit (t:pulse_Train) (w:Int) (s:api_Span) (v:Int):Prop:=∃k,-64<=k/\k<=64/\(spd t w s k).Lo<=v/\v<=(spd t w s k).Hi
section
variable {m v:Int}
theorem A4o:∀(n:Nat) (a y:Int),a<=y->y<a+n->y∈kr n a
 | 0,a,y,b,c=>by omega
 | n+1,a,y,b,c=>by
  unfold kr
  by_cases h:y=a
  ·rw [h];exact List.mem_cons_self ..
  ·exact List.mem_cons_of_mem _ (A4o n (a+1) y (by omega) (by omega))
theorem A1j (h:hit t w (stepOf x w) v) (c:-m<=v/\v<=m):∃o∈Nc t x m w,o.speed.Lo<=v/\v<=o.speed.Hi:=by
 obtain ⟨k,d,e,f,g⟩:=h;have b:(spw t x m w k).Lo<=v/\v<=(spw t x m w k).Hi:=by
  unfold spw Ka;simp only;constructor<;>split<;>omega
 refine ⟨⟨k,spw t x m w k⟩,List.mem_filterMap.2 ⟨k,A4o 129 (-64) k (by omega) (by omega),?_⟩,b⟩;unfold og isw;rw [if_pos (decide_eq_true (by omega))]
def gl (t:pulse_Train) (x:api_Echo) (m:Int):List fold_Guess:=if t.Kind=1 then (Nc t x m 0).map (λf=>⟨(f.whole,0),f.speed⟩) else (Nc t x m 0).flatMap (λu=>(Nc t x m 1).filterMap (gg u))
theorem A4g:(gl t x m).length<=129*129:=by
 unfold gl
 split
 ·have:=Pb (t:=t) (x:=x) (m:=m) (w:=0);rw [List.length_map];omega
 ·exact A5g
theorem A9z (F:Nat) (g:2000<=F) (h:Ms t=0) (e:∀w,inB (stepOf x w) (-131072) 131072=true) (f:1<=m/\m<=200000) (h0:¬A3m t x m 0) (i:t.Kind≠1->¬A3m t x m 1):Jt F (pt t) x m=some (gl t x m,true):=by
 have ho:=Pb (t:=t) (x:=x) (m:=m) (w:=0);have j:=Pb (t:=t) (x:=x) (m:=m) (w:=1);have e1:∀{β:Type} (a b:β),(bif !(true:Bool) then a else b)=b:=λ_ _=>rfl;unfold Jt gl;rw [Qg,A1d F (by omega) ⟨h,.inl rfl⟩ e f,sb,if_neg (show ¬(isw t x m 0 (-64)=true\/isw t x m 0 64=true) from h0)];simp only [e1]
 by_cases c:t.Kind=1
 ·rw [B9 (by simpa [pt] using c),if_pos c];have:=A59 (Nc t x m 0,true) (by simp;omega) (Nc t x m 0).length F 0 [] (by simp) (by omega) (by simp;omega);have d:E3 (Nc t x m 0,true) F [] 0=_:=this;rw [d];simp
 ·rw [Au (by simpa [pt] using c),if_neg c];unfold Ki;rw [Qg,A1d F (by omega) ⟨h,.inr ⟨rfl,c⟩⟩ e f,sb,if_neg (show ¬(isw t x m 1 (-64)=true\/isw t x m 1 64=true) from i c)];have:=A5w F g (Nc t x m 0,true) (Nc t x m 1,true) (by simp;omega) (by simp;omega) (Nc t x m 0).length F 0 [] (by simp) (by omega) (by simp;omega);have d:D3 F (Nc t x m 0,true) (Nc t x m 1,true) F [] 0=_:=this;rw [d];simp
theorem A4f (h0:hit t 0 (stepOf x 0) v) (e:t.Kind≠1->hit t 1 (stepOf x 1) v) (d:-m<=v/\v<=m):∃g∈gl t x m,g.Speed.Lo<=v/\v<=g.Speed.Hi:=by
 obtain ⟨o,o1,o2⟩:=A1j h0 d;unfold gl
 by_cases b:t.Kind=1
 ·rw [if_pos b];exact ⟨_,List.mem_map_of_mem o1,o2⟩
 ·rw [if_neg b];obtain ⟨p,p1,p2⟩:=A1j (e b) d;have c:(Ka o.speed p.speed).Lo<=v/\v<=(Ka o.speed p.speed).Hi:=by
   unfold Ka;simp only;constructor<;>split<;>omega
  refine ⟨⟨(o.whole,p.whole),Ka o.speed p.speed⟩,List.mem_flatMap.2 ⟨o,o1,List.mem_filterMap.2 ⟨p,p1,?_⟩⟩,c⟩;unfold gg Ml;rw [if_pos (decide_eq_true (by omega))]
theorem We {g:fold_Guess} (h:g∈gl t x m):g.Speed.Lo<=g.Speed.Hi/\-m<=g.Speed.Lo/\g.Speed.Hi<=m:=by
 have b:∀{w} {o:fold_option},o∈Nc t x m w->o.speed.Lo<=o.speed.Hi/\-m<=o.speed.Lo/\o.speed.Hi<=m:=by
  intro w o ho;obtain ⟨k,_,c⟩:=List.mem_filterMap.1 ho;unfold og at c
  split at c
  ·rename_i d
   cases c
   unfold isw at d;have:=of_decide_eq_true d;have e:=A0z (spd t w (stepOf x w) k) ⟨-m,m⟩;unfold spw at this ⊢;simp only at e ⊢;omega
  ·cases c
 unfold gl at h
 split at h
 ·obtain ⟨o,ho,rfl⟩:=List.mem_map.1 h;exact b ho
 ·obtain ⟨o,ho,h⟩:=List.mem_flatMap.1 h;obtain ⟨p,f,h⟩:=List.mem_filterMap.1 h;unfold gg Ml at h
  split at h
  ·rename_i d
   cases h
   have:=of_decide_eq_true d;have i:=b ho;have j:=b f;have e:=A0z o.speed p.speed;simp only;omega
  ·cases h
end
section
variable {γ:Type}
theorem N8 {A B:List α} {y:α} {k:Nat} (h:A.length=k) (f:α->Option β):(Ax (A++y::B) (k:Int)).bind f=f y:=by
 subst h;unfold Ax;rw [if_pos (by omega),Int.toNat_natCast,List.getElem?_append_right (Nat.le_refl _),Nat.sub_self];rfl
theorem Ni {A B:List α} {y z:α} {k:Nat} (h:A.length=k) (f:List α->Option β):(J5 (A++y::B) (k:Int) z).bind f=f (A++z::B):=by
 subst h;unfold J5;rw [if_pos (by simp;omega),Int.toNat_natCast,List.set_append_right _ _ (Nat.le_refl _),Nat.sub_self];rfl
theorem mkb {B:Nat} {x:α} {f:List α->Option β} (h:B*n<=281474976710656) (b:n<=1000000):(mkI B ((n:Nat):Int) x).bind f=f (List.replicate n x):=by
 unfold mkI;rw [if_pos ⟨by omega,by rw [Int.toNat_natCast];exact h,by omega⟩,Int.toNat_natCast];rfl
def PA (n m:Nat) (f:Nat->Nat->α) (a:Nat):List (List α):=(List.range a).map (λb=>(List.range m).map (f b))++List.replicate (n-a) []
def PB (n m:Nat) (d:α) (f:Nat->Nat->α) (a i:Nat):List (List α):=(List.range a).map (λb=>(List.range m).map (f b))++((List.range i).map (f a)++List.replicate (m-i) d)::List.replicate (n-(a+1)) []
def PC (n m:Nat) (f:Nat->Nat->α) (a i:Nat):List (List α):=(List.range a).map (λb=>(List.range m).map (f b))++((List.range i).map (f a))::List.replicate (n-(a+1)) []
theorem Wt (n m:Nat) (f:Nat->Nat->α):PA n m f 0=List.replicate n []:=by simp [PA]
theorem A3c {a:Nat} (c:a<n) (f:Nat->Nat->α):PA n m f a=(List.range a).map (λb=>(List.range m).map (f b))++[]::List.replicate (n-(a+1)) []:=by
 unfold PA;rw [show n-a=(n-(a+1))+1 by omega,List.replicate_succ]
theorem A3d {a:Nat} (b:a<n) (d:α) (f:Nat->Nat->α):PB n m d f a m=PA n m f (a+1):=by
 unfold PA PB;rw [Nat.sub_self,List.range_succ,List.map_append];simp
theorem A60 {a:Nat} (b:a<n) (f:Nat->Nat->α):PA n m f a=PC n m f a 0:=A3c b f
theorem A86 {a:Nat} (b:a<n) (f:Nat->Nat->α):PC n m f a m=PA n m f (a+1):=by
 unfold PA PC;rw [List.range_succ,List.map_append];simp
theorem A1p (hi:i<m) (d:α) (f:Nat->α):(List.range i).map f++List.replicate (m-i) d=(List.range i).map f++d::List.replicate (m-(i+1)) d:=by
 rw [show m-i=(m-(i+1))+1 by omega,List.replicate_succ]
theorem Yw (m i:Nat) (d:α) (f:Nat->α):(List.range i).map f++f i::List.replicate (m-(i+1)) d=(List.range (i+1)).map f++List.replicate (m-(i+1)) d:=by
 rw [List.range_succ,List.map_append,List.append_assoc];rfl
theorem Zi (n m:Nat) (f:Nat->Nat->α):PA n m f n=(List.range n).map (λb=>(List.range m).map (f b)):=by simp [PA]
theorem A9y {a:Nat} (c:a<n) (f:Nat->Nat->α) (k:List α->Option β):(Ax ((List.range n).map (λb=>(List.range m).map (f b))) (a:Int)).bind k=k ((List.range m).map (f a)):=by
 unfold Ax;rw [if_pos (by omega),Int.toNat_natCast,List.getElem?_map,List.getElem?_range c];rfl
theorem Sj (hi:i<m) (f:Nat->α) (k:α->Option β):(Ax ((List.range m).map f) (i:Int)).bind k=k (f i):=by
 unfold Ax;rw [if_pos (by omega),Int.toNat_natCast,List.getElem?_map,List.getElem?_range hi];rfl
end
def Sp (set:List api_Span) (g:fold_Guess):Option fold_Guess :=
 if 0<(mt set [g.Speed]).length then some ⟨(g.Whole.1,g.Whole.2),⟨((mt set [g.Speed]).getD 0 default).Lo,((mt set [g.Speed]).getD ((mt set [g.Speed]).length-1) default).Hi⟩⟩ else none
def mkF (r:List fold_Guess):fold_Found:=⟨if r.length=0 then 4 else if r.length=1 then 2 else 3,r⟩
def A4p (l:List fold_Guess) (set:List api_Span):fold_Found:=mkF (l.filterMap (Sp set))
theorem A4q (r:List fold_Guess) (h:r.length<=1000000000):L7 r=some (mkF r):=by
 unfold L7 mkF
 match r,h with
 | [],_=>rfl
 | [a],_=>rfl
 | a::b::c,h =>
  have e:(if (((a::b::c).length:Nat):Int)<2 then (((a::b::c).length:Nat):Int) else 2)=((2:Nat):Int):=by
   rw [if_neg (by simp;omega)];rfl
  rw [e,if_neg (by simp),if_neg (by simp)];rfl
theorem A2h (k:FF<=F) {set:List api_Span} (c:Good set) {l:List fold_Guess} (t:l.length<=1000000) (m:∀g∈l,g.Speed.Lo<=g.Speed.Hi):∀(n N i:Nat) (acc:List fold_Guess),i+n=l.length->n<N->acc.length+n<=1000000 ->
  Hh F l set N (i:Int) acc=some (mkF (acc++(l.drop i).filterMap (Sp set))):=by
 intro n
 induction n with
 | zero =>
  intro N i acc hi o p;obtain ⟨N,rfl⟩:∃N',N=N'+1:=⟨N-1,by omega⟩;show Hg F l set (Hh F l set N) (i:Int) acc=_;unfold Hg;rw [Au (by simp;omega),List.drop_eq_nil_of_le (by omega),A4q _ (by omega)];simp
 | succ n ih =>
  intro N i acc hi o p;obtain ⟨N,rfl⟩:∃N',N=N'+1:=⟨N-1,by omega⟩;show Hg F l set (Hh F l set N) (i:Int) acc=_;unfold Hg;have f:l.getD i default∈l:=by rw [List.getD_eq_getElem?_getD,List.getElem?_eq_getElem (by omega:i<l.length)];exact List.getElem_mem _
  rw [B9 (by simp;omega),Ev default (by omega),Int.toNat_natCast,D9 (i:=i) (by omega) default];obtain ⟨g,q⟩:∃g,l.getD i default=g:=⟨_,rfl⟩;rw [q] at f ⊢;have d:=m g f;have j:=c.len;rw [A1g k (by omega) (by simp) c.1 ⟨List.pairwise_singleton _ _,by intro s h;simp at h;subst h;exact d⟩ c.big,sb,List.filterMap_cons];have r:(mt set [g.Speed]).length<=400001:=(Good.mt (a:=set) (b:=[g.Speed]) c).len;unfold Sp
  by_cases h0:0<(mt set [g.Speed]).length
  ·rw [B9 (by simpa using h0),Ev default (by omega),ckb (by omega),Ev default (by omega),if_pos h0,Ky (by simp;omega)];unfold Ju;rw [ckb (by omega)];have:=ih N (i+1) (acc++[⟨(g.Whole.1,g.Whole.2),⟨((mt set [g.Speed]).getD 0 default).Lo,((mt set [g.Speed]).getD ((mt set [g.Speed]).length-1) default).Hi⟩⟩]) (by omega) (by omega) (by simp;omega);rw [Int.natCast_add] at this;have e:((((mt set [g.Speed]).length:Nat):Int)-1).toNat=(mt set [g.Speed]).length-1:=by omega
   rw [e];refine Eq.trans this ?_;rw [List.append_assoc];rfl
  ·rw [Au (by simpa using h0),if_neg h0];unfold Ju;rw [ckb (by omega)];have:=ih N (i+1) acc (by omega) (by omega) (by omega);rw [Int.natCast_add] at this;exact this
theorem A6n (b:FF<=F) {set:List api_Span} (c:Good set) {l:List fold_Guess} (d:l.length<=1000000) (e:∀g∈l,g.Speed.Lo<=g.Speed.Hi):R7 F l set=some (A4p l set):=by
 have f:=b;unfold FF at f;exact A2h b c d e l.length F 0 [] (by omega) (by omega) (by simp;omega)
section
variable {mst:Int}
def gX (s:api_Sweep) (a i:Nat):api_Echo:=(s.Rays.getD a []).getD i default
def sX (t:pulse_Train) (s:api_Sweep) (mst:Int) (a i:Nat):List api_Span:=if (gX s a i).Kind=3 then un ((gl t (gX s a i) mst).map (·.Speed)) else []
def aX (t:pulse_Train) (s:api_Sweep) (mst:Int) (a i:Nat):List fold_Guess:=if (gX s a i).Kind=3 then gl t (gX s a i) mst else []
def SX (t:pulse_Train) (s:api_Sweep) (mst:Int) (n m:Nat):Rays:=(List.range n).map λa=>(List.range m).map (sX t s mst a)
def A0t (F:Nat) (t:pulse_Train) (s:api_Sweep) (mst:Int):Prop:=∀a i,(gX s a i).Kind=3->Jt F (pt t) (gX s a i) mst=some (gl t (gX s a i) mst,true)
theorem Wo (i:1<=mst/\mst<=200000):Good (un ((gl t x mst).map (·.Speed)))/\valid ((gl t x mst).map (·.Speed))/\M4 200000 ((gl t x mst).map (·.Speed)):=by
 have b:valid ((gl t x mst).map (·.Speed)):=by
  intro p c;obtain ⟨g,d,rfl⟩:=List.mem_map.1 c;exact (We d).1
 have e:M4 200000 ((gl t x mst).map (·.Speed)):=by
  intro p c;obtain ⟨g,d,rfl⟩:=List.mem_map.1 c;have:=We d;omega
 exact ⟨⟨Pf b,Mf (Pf b).2 λz f=>Na e ((Tw b z).1 f)⟩,b,e⟩
theorem A74 (b:1<=mst/\mst<=200000) (a i:Nat):Good (sX t s mst a i):=by
 unfold sX
 split
 ·exact (Wo b).1
 ·exact Ye
theorem Z6 (x17831:Int) (S:List (List (List api_Span))) (x19851:Int) (k9:List (List (List api_Span))->List (List (List fold_Guess))->Int->Option (List (List fold_Found)×Int)) (y:List fold_Guess×Bool) (d:y.1.length<=1000000) (A:List (List (List fold_Guess))) :
  ∀(q N i:Nat) (acc:List api_Span),i+q=y.1.length->q<N->acc.length+q<=1000000->F2 F x17831 S x19851 k9 y A N (i:Int) acc=Ho F x17831 S x19851 k9 A (acc++(y.1.drop i).map (·.Speed)):=by
 intro q
 induction q with
 | zero =>
  intro N i acc hi b c;obtain ⟨N,rfl⟩:∃N',N=N'+1:=⟨N-1,by omega⟩;show F1 F x17831 S x19851 k9 y A (F2 F x17831 S x19851 k9 y A N) (i:Int) acc=_;unfold F1;rw [Au (by simp;omega),List.drop_eq_nil_of_le (by omega)];simp
 | succ q ih =>
  intro N i acc hi b c;obtain ⟨N,rfl⟩:∃N',N=N'+1:=⟨N-1,by omega⟩;show F1 F x17831 S x19851 k9 y A (F2 F x17831 S x19851 k9 y A N) (i:Int) acc=_;unfold F1;rw [B9 (by simp;omega),Ev default (by omega),Int.toNat_natCast,Ky (by simp;omega),ckb (by omega)];have:=ih N (i+1) (acc++[(y.1.getD i default).Speed]) (by omega) (by omega) (by simp;omega);rw [Int.natCast_add] at this;refine Eq.trans this ?_;rw [D9 (i:=i) (by omega) default];simp
theorem Zx (k:FF<=F) (u:A0t F t s mst) (v:1<=mst/\mst<=200000) {a:Nat} (l:a<n) (hn:n<=1000) (y:m<=1000) (hr:(s.Rays.getD a []).length=m)
  (k7:List (List (List api_Span))->List (List (List fold_Guess))->Int->Option (List (List fold_Found)×Int)):∀(q N i:Nat),i+q=m->q<N ->
  Er F (pt t) mst (a:Int) k7 (s.Rays.getD a []) N (PB n m [] (sX t s mst) a i) (PB n m [] (aX t s mst) a i) (i:Int)=k7 (PA n m (sX t s mst) (a+1)) (PA n m (aX t s mst) (a+1)) ((a+1:Nat):Int):=by
 have j:=k;unfold FF at j;intro q
 induction q with
 | zero =>
  intro N i hi z;obtain ⟨N,rfl⟩:∃N',N=N'+1:=⟨N-1,by omega⟩;obtain rfl:i=m:=by omega
  show Fx F (pt t) mst (a:Int) k7 (s.Rays.getD a []) (Er F (pt t) mst (a:Int) k7 (s.Rays.getD a []) N) _ _ (i:Int)=_;unfold Fx L6;rw [Au (decide_eq_false (by omega)),ckb (by omega),A3d l,A3d l];rfl
 | succ q ih =>
  intro N i hi z;obtain ⟨N,rfl⟩:∃N',N=N'+1:=⟨N-1,by omega⟩;show Fx F (pt t) mst (a:Int) k7 (s.Rays.getD a []) (Er F (pt t) mst (a:Int) k7 (s.Rays.getD a []) N) _ _ (i:Int)=_;unfold Fx;have hx:(s.Rays.getD a []).getD i default=gX s a i:=rfl;have ihh:=ih N (i+1) (by omega) (by omega);rw [Int.natCast_add] at ihh;have f:((List.range a).map (λb=>(List.range m).map (sX t s mst b))).length=a:=by simp
  have c:((List.range a).map (λb=>(List.range m).map (aX t s mst b))).length=a:=by simp
  have g:((List.range i).map (sX t s mst a)).length=i:=by simp
  have d:((List.range i).map (aX t s mst a)).length=i:=by simp
  rw [B9 (decide_eq_true (by omega)),Ev default (by omega),Int.toNat_natCast,hx];have e1:PB n m [] (sX t s mst) a (i+1)=(List.range a).map (λb=>(List.range m).map (sX t s mst b))++((List.range i).map (sX t s mst a)++sX t s mst a i::List.replicate (m-(i+1)) [])::List.replicate (n-(a+1)) []:=by
   unfold PB;rw [Yw]
  have e2:PB n m [] (aX t s mst) a (i+1)=(List.range a).map (λb=>(List.range m).map (aX t s mst b))++((List.range i).map (aX t s mst a)++aX t s mst a i::List.replicate (m-(i+1)) [])::List.replicate (n-(a+1)) []:=by
   unfold PB;rw [Yw]
  have f1:PB n m [] (sX t s mst) a i=(List.range a).map (λb=>(List.range m).map (sX t s mst b))++((List.range i).map (sX t s mst a)++[]::List.replicate (m-(i+1)) [])::List.replicate (n-(a+1)) []:=by
   unfold PB;rw [A1p (by omega)]
  have f2:PB n m [] (aX t s mst) a i=(List.range a).map (λb=>(List.range m).map (aX t s mst b))++((List.range i).map (aX t s mst a)++[]::List.replicate (m-(i+1)) [])::List.replicate (n-(a+1)) []:=by
   unfold PB;rw [A1p (by omega)]
  by_cases e:(gX s a i).Kind=3
  ·rw [Au (by simpa using e),Qg,u a i e,sb,Au (by rfl),f2,N8 c,N8 d,Ni d,Ni c];have o:=A4g (t:=t) (x:=gX s a i) (m:=mst);have h4:=Z6 (F:=F) (a:Int) (PB n m [] (sX t s mst) a i) (i:Int) (Er F (pt t) mst (a:Int) k7 (s.Rays.getD a []) N) (gl t (gX s a i) mst,true) (by simp only;omega)
    ((List.range a).map (λb=>(List.range m).map (aX t s mst b))++((List.range i).map (aX t s mst a)++gl t (gX s a i) mst::List.replicate (m-(i+1)) [])::List.replicate (n-(a+1)) []) (gl t (gX s a i) mst).length F 0 [] (by simp) (by omega) (by simp;omega)
   refine Eq.trans h4 ?_;obtain ⟨g1,g2,g3⟩:=Wo (t:=t) (x:=gX s a i) v;unfold Ho G8;rw [f1,N8 f,List.drop_zero,List.nil_append,Tx k g2 (λp r=>by have:=g3 p r;have:=g2 p r;unfold spB;omega) (by rw [List.length_map];omega),sb,N8 g,Ni g,Ni f,ckb (by omega)];have s1:sX t s mst a i=un ((gl t (gX s a i) mst).map (·.Speed)):=by unfold sX;rw [if_pos e]
   have s2:aX t s mst a i=gl t (gX s a i) mst:=by unfold aX;rw [if_pos e]
   rw [e1,e2,s1,s2] at ihh;exact ihh
  ·rw [B9 (by simpa using e)];unfold G8;rw [ckb (by omega)];have s1:sX t s mst a i=[]:=by unfold sX;rw [if_neg e]
   have s2:aX t s mst a i=[]:=by unfold aX;rw [if_neg e]
   rw [e1,e2,s1,s2,←f1,←f2] at ihh;exact ihh
theorem A2w (i:FF<=F) (k:A0t F t s mst) (l:1<=mst/\mst<=200000) (u:s.Rays.length=n) (o:n<=1000) (f:m<=1000) (p:∀a<n,(s.Rays.getD a []).length=m):∀(q N a:Nat),a+q=n->q<N ->
  Ep F (pt t) s mst jp br N (PA n m (sX t s mst) a) (PA n m (aX t s mst) a) (a:Int)=Jd F s jp br (SX t s mst n m) ((List.range n).map λa=>(List.range m).map (aX t s mst a)):=by
 have g:=i;unfold FF at g;intro q
 induction q with
 | zero =>
  intro N a hi r;obtain ⟨N,rfl⟩:∃N',N=N'+1:=⟨N-1,by omega⟩;obtain rfl:a=n:=by omega
  show Fw F (pt t) s mst jp br (Ep F (pt t) s mst jp br N) _ _ (a:Int)=_;unfold Fw;rw [Au (by simp;omega),Zi,Zi];rfl
 | succ q ih =>
  intro N a hi r;obtain ⟨N,rfl⟩:∃N',N=N'+1:=⟨N-1,by omega⟩;show Fw F (pt t) s mst jp br (Ep F (pt t) s mst jp br N) _ _ (a:Int)=_;unfold Fw;have d:=p a (by omega);have e:((List.range a).map (λb=>(List.range m).map (sX t s mst b))).length=a:=by simp
  have c:((List.range a).map (λb=>(List.range m).map (aX t s mst b))).length=a:=by simp
  rw [B9 (by simp;omega),Ev [] (by omega),Int.toNat_natCast,d,mkb (by omega) (by omega),A3c (by omega:a<n),N8 e,mkb (by omega) (by omega),Ni e,A3c (by omega:a<n),N8 c,Ni c];have j:=Zx i k l (by omega:a<n) o f d (Ep F (pt t) s mst jp br N) m F 0 (by omega) (by omega);have e1:PB n m [] (sX t s mst) a 0=(List.range a).map (λb=>(List.range m).map (sX t s mst b))++List.replicate m []::List.replicate (n-(a+1)) []:=by simp [PB]
  have e2:PB n m [] (aX t s mst) a 0=(List.range a).map (λb=>(List.range m).map (aX t s mst b))++List.replicate m []::List.replicate (n-(a+1)) []:=by simp [PB]
  rw [e1,e2] at j;refine Eq.trans j ?_;exact ih N (a+1) (by omega) (by omega)
end
section
variable {mst:Int}
def oX (t:pulse_Train) (s:api_Sweep) (mst:Int) (G:Rays) (a i:Nat):fold_Found:=if (gX s a i).Kind=3 then A4p (gl t (gX s a i) mst) (gf G (a,i)) else ⟨1,[]⟩
def AX (t:pulse_Train) (s:api_Sweep) (mst:Int) (n m:Nat):List (List (List fold_Guess)):=(List.range n).map λa=>(List.range m).map (aX t s mst a)
theorem A3e {a:Nat} (f:Nat->Nat->α) (k:List α->Option β):(Ax (PC n m f a i) (a:Int)).bind k=k ((List.range i).map (f a)):=by
 unfold PC;exact N8 (by simp) k
theorem A87 {a:Nat} (f:Nat->Nat->α) (k:List (List α)->Option β):(J5 (PC n m f a i) (a:Int) ((List.range i).map (f a)++[f a i])).bind k=k (PC n m f a (i+1)):=by
 unfold PC;rw [Ni (by simp),List.range_succ,List.map_append];rfl
theorem A2t (k:FF<=F) (y:1<=mst/\mst<=200000) (l:AllG G) (e:Shape G n m) {a:Nat} (d:a<n) (z:n<=1000) (p:m<=1000) (hr:(s.Rays.getD a []).length=m)
  (k3:Int->List (List fold_Found)->Option (List (List fold_Found)×Int)):∀(q N i:Nat),i+q=m->q<N ->
  Eo F (AX t s mst n m) G (a:Int) k3 (s.Rays.getD a []) N (i:Int) (PC n m (oX t s mst G) a i)=k3 ((a+1:Nat):Int) (PA n m (oX t s mst G) (a+1)):=by
 intro q
 induction q with
 | zero =>
  intro N i hi r;obtain ⟨N,rfl⟩:∃N',N=N'+1:=⟨N-1,by omega⟩;obtain rfl:i=m:=by omega
  show Fv F (AX t s mst n i) G (a:Int) k3 (s.Rays.getD a []) (Eo F (AX t s mst n i) G (a:Int) k3 (s.Rays.getD a []) N) (i:Int) _=_;unfold Fv L5;rw [Au (decide_eq_false (by omega)),ckb (by omega),A86 d];rfl
 | succ q ih =>
  intro N i hi r;obtain ⟨N,rfl⟩:∃N',N=N'+1:=⟨N-1,by omega⟩;show Fv F (AX t s mst n m) G (a:Int) k3 (s.Rays.getD a []) (Eo F (AX t s mst n m) G (a:Int) k3 (s.Rays.getD a []) N) (i:Int) _=_;unfold Fv;have u:(s.Rays.getD a []).getD i default=gX s a i:=rfl;have ihh:=ih N (i+1) (by omega) (by omega);rw [Int.natCast_add] at ihh;have f:∀(o:fold_Found),o=oX t s mst G a i->Gs (a:Int) (i:Int) (PC n m (oX t s mst G) a i) (Eo F (AX t s mst n m) G (a:Int) k3 (s.Rays.getD a []) N) o.State o.Guesses=k3 ((a+1:Nat):Int) (PA n m (oX t s mst G) (a+1)):=by
   rintro o rfl;unfold Gs;rw [A3e,Ky (by simp;omega),A3e];refine Eq.trans (A87 (oX t s mst G) _) ?_;rw [ckb (by omega)];exact ihh
  rw [B9 (decide_eq_true (by omega)),Ev default (by omega),Int.toNat_natCast,u]
  by_cases b:(gX s a i).Kind=3
  ·have c:=e.row d;have j:=A4g (t:=t) (x:=gX s a i) (m:=mst);rw [B9 (by simpa using b),AX,A9y d,Sj (by omega:i<m),Ev [] (by rw [e.1];omega),Int.toNat_natCast,Ev [] (by rw [c];omega),Int.toNat_natCast];have e1:aX t s mst a i=gl t (gX s a i) mst:=by unfold aX;rw [if_pos b]
   have e2:(G.getD a []).getD i []=gf G (a,i):=rfl;rw [e1,e2,A6n k (l.good (a,i)) (by omega) (λg v=>(We v).1),sb];exact f _ (by unfold oX;rw [if_pos b])
  ·rw [Au (by simpa using b)];exact f ⟨1,[]⟩ (by unfold oX;rw [if_neg b])
theorem A5c (d:FF<=F) (e:1<=mst/\mst<=200000) (f:AllG G) (g:Shape G n m) (l:s.Rays.length=n) (i:n<=1000) (b:m<=1000) (j:∀a<n,(s.Rays.getD a []).length=m):∀(q N a:Nat),a+q=n->q<N ->
  Em F s (AX t s mst n m) G N (a:Int) (PA n m (oX t s mst G) a)=some ((List.range n).map λa=>(List.range m).map (oX t s mst G a),0):=by
 have c:=d;unfold FF at c;intro q
 induction q with
 | zero =>
  intro N a hi k;obtain ⟨N,rfl⟩:∃N',N=N'+1:=⟨N-1,by omega⟩;obtain rfl:a=n:=by omega
  show Fu F s (AX t s mst a m) G (Em F s (AX t s mst a m) G N) (a:Int) _=_;unfold Fu L4;rw [Au (decide_eq_false (by omega)),Zi]
 | succ q ih =>
  intro N a hi k;obtain ⟨N,rfl⟩:∃N',N=N'+1:=⟨N-1,by omega⟩;show Fu F s (AX t s mst n m) G (Em F s (AX t s mst n m) G N) (a:Int) _=_;unfold Fu;rw [B9 (decide_eq_true (by omega)),Ev [] (by omega),Int.toNat_natCast,A60 (by omega:a<n)];exact Eq.trans (A2t d e f g (by omega:a<n) i b (j a (by omega)) (Em F s (AX t s mst n m) G N) m F 0 (by omega) (by omega)) (ih N (a+1) (by omega) (by omega))
theorem Xq:Shape (SX t s mst n m) n m:=by
 refine ⟨by simp [SX],λr b=>?_⟩;obtain ⟨a,_,rfl⟩:=List.mem_map.1 b;simp
theorem A62 (b:1<=mst/\mst<=200000):AllG (SX t s mst n m):=by
 intro r c x d;obtain ⟨a,_,rfl⟩:=List.mem_map.1 c;obtain ⟨i,_,rfl⟩:=List.mem_map.1 d;exact A74 b a i
theorem A7q (b:p.1<n) (c:p.2<m):gf (SX t s mst n m) p=sX t s mst p.1 p.2:=by
 have e1:(SX t s mst n m).getD p.1 []=(List.range m).map (sX t s mst p.1):=by
  unfold SX;rw [List.getD_eq_getElem?_getD,List.getElem?_map,List.getElem?_range b];rfl
 unfold gf gt;rw [e1,List.getD_eq_getElem?_getD,List.getElem?_map,List.getElem?_range c];rfl
theorem A39 (l:FS<=F) (r:Ms t=0) (u:E9 F s=some 0) (f:1<=mst/\mst<=200000) (hj:0<=jp/\jp<=400000) (hb:1<=br/\br<=16) (v:A0t F t s mst) (g:s.Rays.length=n) (i:n<=1000) (c:m<=1000) (o:∀a<n,(s.Rays.getD a []).length=m) :
  ∃G,Jc F (pt t) s mst jp br=some ((List.range n).map (λa=>(List.range m).map (oX t s mst G a)),0)/\Inv (SX t s mst n m) (LL (SX t s mst n m) br jp) n m G/\Stable (LL (SX t s mst n m) br jp) (gf G):=by
 have d:FF<=F:=by unfold FS at l;unfold FF;omega
 have j:=d;unfold FF at j;obtain ⟨G,g1,g2,g3⟩:=A2x (S:=SX t s mst n m) l Xq (A62 f) i c hj hb.2;refine ⟨G,?_,g2,g3⟩;have c0:((0:Int) != 0)=false:=rfl;have k:Lq mst=true:=by unfold Lq;simp [f]
 have e:Fh jp br=0:=by
  unfold Fh;rw [Au];simp [cond_eq_ite];omega
 have e1:∀{β:Type} (a b:β),(bif !(true:Bool) then a else b)=b:=λ_ _=>rfl;unfold Jc;rw [Qr,sb,r,c0,Au rfl,u,sb,c0,Au rfl,k,e1,e,c0,Au rfl,g,mkb (by omega) (by omega),mkb (by omega) (by omega)];have p:=A2w (jp:=jp) (br:=br) d v f g i c o n F 0 (by omega) (by omega);rw [Wt,Wt] at p;refine Eq.trans p ?_;unfold Jd;rw [g1,sb,g,mkb (by omega) (by omega)];have q:=A5c (t:=t) (mst:=mst) d f g2.good g2.shape g i c o n F 0 (by omega) (by omega);rw [Wt] at q;exact q
theorem A4r {set:List api_Span} (s:Good set) {l:List fold_Guess} (t:∀g∈l,g.Speed.Lo<=g.Speed.Hi) {g:fold_Guess} (n:g∈l) {v:Int} (u:g.Speed.Lo<=v/\v<=g.Speed.Hi) (o:mem (2*v) set):∃q∈l.filterMap (Sp set),q.Speed.Lo<=v/\v<=q.Speed.Hi:=by
 have d:mem (2*v) (mt set [g.Speed]):=(Tm _ _ _).2 ⟨o,g.Speed,by simp,by unfold inS;omega⟩;have b:=Pa set [g.Speed];obtain ⟨p,m,i⟩:=d;have e:0<(mt set [g.Speed]).length:=List.length_pos_of_mem m;generalize r:mt set [g.Speed]=M at *;refine ⟨⟨(g.Whole.1,g.Whole.2),⟨(M.getD 0 default).Lo,(M.getD (M.length-1) default).Hi⟩⟩,List.mem_filterMap.2 ⟨g,n,?_⟩,?_,?_⟩
 ·unfold Sp;rw [r,if_pos e]
 all_goals
  unfold inS at i;obtain ⟨j,hj,c⟩:=List.mem_iff_getElem.1 m;have f:=List.pairwise_iff_getElem.1 b.1;simp only;rw [List.getD_eq_getElem?_getD,List.getElem?_eq_getElem (by omega)];simp only [Option.getD_some]
 ·by_cases h0:j=0
  ·subst h0;rw [c];omega
  ·have:=f 0 j (by omega) hj (by omega);have k:=b.2 _ (List.getElem_mem (show 0<M.length by omega));rw [c] at this;omega
 ·by_cases h0:j=M.length-1
  ·subst h0;rw [c];omega
  ·have:=f j (M.length-1) hj (by omega) (by omega);have k:=b.2 _ (List.getElem_mem (show M.length-1<M.length by omega));rw [c] at this;omega
end
structure Gate (t:pulse_Train) (c J:Int) (x:api_Echo) (v:Int):Prop where
 bd:-30000<=v/\v<=30000
 near:c-J/2<=v/\v<=c+J/2
 ok:echoE x=0
 hit:x.Kind=3->turnB (stepOf x 0)=true/\hit t 0 (stepOf x 0) v/\(t.Kind≠1->turnB (stepOf x 1)=true/\hit t 1 (stepOf x 1) v)
section
end
section
variable {X:List (List api_Echo)} {ro g:Int}
def swp (ro g:Int) (X:List (List api_Echo)):api_Sweep:=⟨⟨⟨#[115]⟩,0,0,0,ro,g,500,0⟩,0,0,X⟩
theorem A8y (F:Nat):R1 F ⟨#[115]⟩=some true:=by kernel_rfl
theorem A0m (b:1<=ro/\ro<=3) (c:1<=g/\g<=4):El F ⟨⟨#[115]⟩,0,0,0,ro,g,500,0⟩=some 0:=by
 have w1:An ro 1 90=true:=by unfold An;rw [decide_eq_true (by omega),decide_eq_true (by omega)];rfl
 have w2:An g 1 200=true:=by unfold An;rw [decide_eq_true (by omega),decide_eq_true (by omega)];rfl
 unfold El;simp only;rw [A8y,sb,Au (by rfl),Au (by rfl),Au (by rfl)];unfold Ey;simp only;rw [w1,w2];rfl
theorem Y4 (c:4<=F) (u:List api_Echo) (f:u.length<=1000) (b:∀x∈u,echoE x=0) (x270:Int) (k3:Int->Option Int):∀(q N i:Nat),i+q=u.length->q<N->Cv F x270 k3 u N (i:Int)=Fb x270 k3:=by
 intro q
 induction q with
 | zero =>
  intro N i hi d;obtain ⟨N,rfl⟩:∃N',N=N'+1:=⟨N-1,by omega⟩;show Ct F x270 k3 u (Cv F x270 k3 u N) (i:Int)=_;unfold Ct;rw [Au (decide_eq_false (by omega))]
 | succ q ih =>
  intro N i hi d;obtain ⟨N,rfl⟩:∃N',N=N'+1:=⟨N-1,by omega⟩;show Ct F x270 k3 u (Cv F x270 k3 u N) (i:Int)=_;unfold Ct;have e:u.getD i default∈u:=by rw [List.getD_eq_getElem?_getD,List.getElem?_eq_getElem (by omega:i<u.length)];exact List.getElem_mem _
  rw [B9 (decide_eq_true (by omega)),Ev default (by omega),Int.toNat_natCast,Qg,A0a F c,b _ e,sb,Au (by rfl),ckb (by omega)];have:=ih N (i+1) (by omega) (by omega);rw [Int.natCast_add] at this;exact this
theorem A3h (f:2000<=F) (j:X.length<=1000) (b:∀r∈X,r.length<=1000/\∀x∈r,echoE x=0):∀(q N i:Nat),i+q=X.length->q<N->Cc F (swp ro g X) N (i:Int)=some 0:=by
 intro q
 induction q with
 | zero =>
  intro N i hi d;obtain ⟨N,rfl⟩:∃N',N=N'+1:=⟨N-1,by omega⟩;show Cs F (swp ro g X) (Cc F (swp ro g X) N) (i:Int)=_;unfold Cs;have e0:(swp ro g X).Rays=X:=rfl;rw [e0,Au (decide_eq_false (show ¬(i:Int)<(X.length:Int) by omega))];rfl
 | succ q ih =>
  intro N i hi d;obtain ⟨N,rfl⟩:∃N',N=N'+1:=⟨N-1,by omega⟩;show Cs F (swp ro g X) (Cc F (swp ro g X) N) (i:Int)=_;unfold Cs;have e0:(swp ro g X).Rays=X:=rfl;have c:X.getD i []∈X:=by rw [List.getD_eq_getElem?_getD,List.getElem?_eq_getElem (by omega:i<X.length)];exact List.getElem_mem _
  rw [e0,B9 (decide_eq_true (by omega)),Ev [] (by omega),Int.toNat_natCast];have e:=Y4 (F:=F) (by omega) (X.getD i []) (b _ c).1 (b _ c).2 (i:Int) (Cc F (swp ro g X) N) (X.getD i []).length F 0 (by omega) (by have:=(b _ c).1;omega);refine Eq.trans e ?_;unfold Fb;rw [ckb (by omega)];have:=ih N (i+1) (by omega) (by omega);rw [Int.natCast_add] at this;exact this
theorem A2i (c:2000<=F) (d:X.length<=1000) (b:∀r∈X,(r.length:Int)=g/\r.length<=1000/\∀x∈r,echoE x=0):∀(q N i:Nat),i+q=X.length->q<N->Cw F (swp ro g X) N (i:Int)=some 0:=by
 intro q
 induction q with
 | zero =>
  intro N i hi e;obtain ⟨N,rfl⟩:∃N',N=N'+1:=⟨N-1,by omega⟩;show Cu F (swp ro g X) (Cw F (swp ro g X) N) (i:Int)=_;unfold Cu;have e0:(swp ro g X).Rays=X:=rfl;rw [e0,Au (decide_eq_false (show ¬(i:Int)<(X.length:Int) by omega))];exact A3h c d (λr f=>(b r f).2) X.length F 0 (by omega) (by omega)
 | succ q ih =>
  intro N i hi e;obtain ⟨N,rfl⟩:∃N',N=N'+1:=⟨N-1,by omega⟩;show Cu F (swp ro g X) (Cw F (swp ro g X) N) (i:Int)=_;unfold Cu;have e0:(swp ro g X).Rays=X:=rfl;have e1:(swp ro g X).Site.Gates=g:=rfl;have j:X.getD i []∈X:=by rw [List.getD_eq_getElem?_getD,List.getElem?_eq_getElem (by omega:i<X.length)];exact List.getElem_mem _
  rw [e0,e1,B9 (decide_eq_true (by omega)),Ev [] (by omega),Int.toNat_natCast,(b _ j).1,Au (by simp),ckb (by omega)];have:=ih N (i+1) (by omega) (by omega);rw [Int.natCast_add] at this;exact this
theorem A23 (d:2000<=F) (b:1<=ro/\ro<=3) (e:1<=g/\g<=4) (f:(X.length:Int)=4*ro) (c:∀r∈X,(r.length:Int)=g/\∀x∈r,echoE x=0):E9 F (swp ro g X)=some 0:=by
 have h:=A2i (ro:=ro) (g:=g) d (by omega) (λr b=>⟨(c r b).1,by have:=(c r b).1;omega,(c r b).2⟩) X.length F 0 (by omega) (by omega);unfold E9;have e0:(swp ro g X).Site=⟨⟨#[115]⟩,0,0,0,ro,g,500,0⟩:=rfl;have e1:(swp ro g X).Rays=X:=rfl;have e2:(swp ro g X).Site.Rose=ro:=rfl;rw [e2,e1,e0,A0m b e,sb,Au (by rfl),Au (by rfl),ckb (by omega),f,Au (by simp)];exact h
end
section
variable {c J:Int} {X:List (List api_Echo)} {V:List (List Int)}
def vX (V:List (List Int)) (a i:Nat):Int:=(V.getD a []).getD i 0
def fX (s:api_Sweep) (V:List (List Int)) (n m:Nat):Fam:=λp=>if p.1<n/\p.2<m/\(gX s p.1 p.2).Kind=3 then [⟨vX V p.1 p.2,vX V p.1 p.2⟩] else []
theorem Tf:mem z (fX s V n m p)↔(p.1<n/\p.2<m/\(gX s p.1 p.2).Kind=3)/\z=2*vX V p.1 p.2:=by
 unfold fX
 split
 ·rename_i h
  constructor
  ·rintro ⟨q,c,b⟩;simp at c;subst c;unfold inS at b;simp only at b;exact ⟨h,by omega⟩
  ·rintro ⟨_,b⟩;exact ⟨_,by simp;rfl,by unfold inS;simp only;omega⟩
 ·rename_i h
  constructor
  ·intro d;exact absurd d (Mw z)
  ·rintro ⟨e,_⟩;exact absurd e h
theorem A9r (hj:0<=jp) (h:LL S br jp p q d):jp<=d:=by
 rcases h with ⟨_,_,h,rfl⟩|⟨_,_,_,k,b,_,rfl⟩
 ·have c:=h.1;have:=Int.mul_le_mul_of_nonneg_left (show (1:Int)<=(q.2:Int)-p.2 by omega) hj;omega
 ·have c:=b.1;have:=Int.mul_le_mul_of_nonneg_left (show (1:Int)<=(k:Int) by omega) hj;omega
theorem A9s (h:LL S br jp p q d):ne (S.getD p.1 []) p.2=true/\ne (S.getD q.1 []) q.2=true:=by
 rcases h with ⟨c,e,b,f⟩|⟨c,e,b,k,f,g,i⟩
 ·exact ⟨b.2.2.1,by rw [←c];exact b.2.2.2.1⟩
 ·exact ⟨e,by rw [g,←b];exact f.2.2.2.1⟩
theorem Yl {mst:Int} (b:p.1<n) (c:p.2<m) (h:ne ((SX t s mst n m).getD p.1 []) p.2=true):(gX s p.1 p.2).Kind=3:=by
 have e:gt ((SX t s mst n m).getD p.1 []) p.2=sX t s mst p.1 p.2:=A7q b c;unfold ne at h;rw [e] at h;unfold sX at h
 split at h
 ·assumption
 ·simp at h
theorem A5v {mst:Int} (r:0<=J) (j:∀a<n,∀i<m,Gate t c J (gX s a i) (vX V a i)) (hm:30000<=mst) (v:Inv (SX t s mst n m) (LL (SX t s mst n m) br J) n m G) {a:Nat} (y:a<n) (hi:i<m) (f:(gX s a i).Kind=3):mem (2*vX V a i) (gf G (a,i)):=by
 refine v.most (fX s V n m) ?_ ?_ (a,i) _ (Tf.2 ⟨⟨y,hi,f⟩,rfl⟩)
 ·have key:∀p q d,LL (SX t s mst n m) br J p q d->Zj (fX s V n m) p q d/\Zj (fX s V n m) q p d:=by
   intro p q d h;obtain ⟨i1,i2,i3,i4,_⟩:=Uo Xq h;obtain ⟨n1,n2⟩:=A9s h;have k1:=Yl i1 i2 n1;have k2:=Yl i3 i4 n2;have hd:=A9r r h;have b1:=(j p.1 i1 p.2 i2).near;have b2:=(j q.1 i3 q.2 i4).near;constructor
   ·intro z b;obtain ⟨_,rfl⟩:=Tf.1 b;exact ⟨2*vX V p.1 p.2,Tf.2 ⟨⟨i1,i2,k1⟩,rfl⟩,by omega,by omega⟩
   ·intro z b;obtain ⟨_,rfl⟩:=Tf.1 b;exact ⟨2*vX V q.1 q.2,Tf.2 ⟨⟨i3,i4,k2⟩,rfl⟩,by omega,by omega⟩
  rintro p q d (h|h)
  ·exact (key p q d h).1
  ·exact (key q p d h).2
 ·intro p z b;obtain ⟨⟨l,o,f⟩,rfl⟩:=Tf.1 b;rw [A7q l o];have e:=j p.1 l p.2 o;obtain ⟨_,q1,q2⟩:=e.hit f;obtain ⟨g,g1,g2⟩:=A4f (t:=t) (x:=gX s p.1 p.2) (m:=mst) q1 (λhk=>(q2 hk).2) (by have:=e.bd;omega);have hv:valid ((gl t (gX s p.1 p.2) mst).map (·.Speed)):=by
   intro u hu;obtain ⟨g',k,rfl⟩:=List.mem_map.1 hu;exact (We k).1
  unfold sX;rw [if_pos f];exact (Tw hv _).2 ⟨g.Speed,List.mem_map_of_mem g1,by unfold inS;omega⟩
end
end Go.Proofs.YtkdhnnfokfchpaaGreat
