import Derived.Test.YtfkeddejdahnhaaGreatDoorQ3XD
set_option linter.unusedVariables false
set_option linter.unusedSimpArgs false
set_option linter.unusedSectionVars false
namespace Go.Proofs.YtfkeddejdahnhaaGreatDoor
open Go Go.RowKit Go.Eng
set_option maxRecDepth 10000
variable {β α:Type} {x d y w z br jp:Int} {f:α->Option β} {l b:List zA} {i m a n F:Nat} {t:zH} {s:zA}
theorem ckb {f:Int->Option β} (h:-9000000000000000000<=x/\x<=9000000000000000000):(ck x).bind f=f x:=by
 unfold ck;rw [if_pos om];rfl
theorem ck1 (h:-9000000000000000000<=x/\x<=9000000000000000000):ck x=some x:=by
 unfold ck;rw [if_pos om]
theorem gdT {g:Bool} {o:Option α} {d:α} (h:g=true):gd g o d=o:=by subst h;rfl
theorem gdF {g:Bool} {o:Option α} {d:α} (h:g=false):gd g o d=some d:=by subst h;rfl
theorem B8 {c:Bool} {x y:α} (h:c=true):(bif c then x else y)=x:=by rw [h];rfl
theorem Au {c:Bool} {x y:α} (h:c=false):(bif c then x else y)=y:=by rw [h];rfl
theorem sb {x:α} :(some x).bind f=f x:=rfl
theorem J3 {l:List α} {i:Int} (d:α) (h:0<=i/\i<l.length):(Av l i).bind f=f (l.getD i.toNat d):=by
 unfold Av;rw [if_pos h.1,List.getElem?_eq_getElem om,List.getD_eq_getElem?_getD,List.getElem?_eq_getElem om];rfl
theorem R9 {l k:List α} {B:Nat} {f:List α->Option β} (h:(l.length+k.length)*B<=140737488355328/\l.length+k.length<=9223372036854775807):(apd B l k).bind f=f (l++k):=by
 unfold apd;rw [if_pos h];rfl
def pt (t:zH):zH:=⟨t.Lambda,t.Kind,t.First,t.Second,t.Count⟩
def X4 (t:zH):Bool :=
 decide (10000<=t.Lambda/\t.Lambda<=1000000/\200<=t.First/\t.First<=5000/\t.Count<=64 /\
  ((t.Kind=1/\t.Second=0/\2<=t.Count)\/(t.Kind=2/\t.Count.tmod 2=0/\4<=t.Count/\200<=t.Second/\t.Second<=5000/\t.First<t.Second) \/
   (t.Kind=3/\3<=t.Count/\200<=t.Second/\t.Second<=5000/\t.First<t.Second)))
def Sq (t:zH):Int:=if t.Kind≠1/\t.Kind≠2/\t.Kind≠3 then 2 else if X4 t=true then 0 else 3
theorem C0x (x:Int):Jr x 2=some (x.tmod 2):=rfl
theorem Wi (F:Nat) (t:zH):F6 F (pt t)=some (Sq t):=by
 unfold F6 Gb Jb Sq X4 Ag pt;simp only [C0x,Option.bind_some]
 by_cases b:t.Kind=1
 ·simp [b,cond_eq_ite];grind
 ·by_cases c:t.Kind=2
  ·simp [c,cond_eq_ite];grind
  ·by_cases d:t.Kind=3
   ·simp [d,cond_eq_ite];grind
   ·simp [b,c,d,cond_eq_ite]
def turnB (s:zA):Bool:=decide (-32768<=s.Lo/\s.Lo<=32767/\s.Lo<=s.Hi/\s.Hi<=s.Lo+65535)
theorem Vf (p:List zA) (k:Int->Option Bool) (i:Nat) (s:zA) (h:p[i]? = some s) (hi:i<1000):F7 p k (i:Int)=if turnB s then k ((i:Int)+1) else some false:=by
 have d:=(List.getElem?_eq_some_iff.1 h).1;unfold F7;rw [B8 (by simpa using d),J3 s om];simp only [List.getD_eq_getElem?_getD,Int.toNat_natCast,h,Option.getD_some];unfold turnB Ag
 by_cases b:-32768<=s.Lo/\s.Lo<=32767
 ·have e:(bif decide (-32768<=s.Lo) then decide (s.Lo<=32767) else false)=true:=by simp [b.1,b.2]
  rw [e,gdT (g:=(!true)==false&&true) rfl,ckb om,gdT (g:=(!true)==false&&true) rfl,ckb om,ckb om];have e2:s.Lo+65536-1=s.Lo+65535:=om
  rw [e2]
  by_cases c:s.Lo<=s.Hi/\s.Hi<=s.Lo+65535
  ·rw [if_pos (by simp [b,c])];simp [c]
  ·rw [if_neg (by simp;intro _ _ f;omega)];have:(bif decide (s.Lo<=s.Hi) then decide (s.Hi<=s.Lo+65535) else false)=false:=by simp [cond_eq_ite];omega
   rw [this];rfl
 ·have e:(bif decide (-32768<=s.Lo) then decide (s.Lo<=32767) else false)=false:=by simp [cond_eq_ite];omega
  rw [e,gdF (g:=(!false)==false&&true) rfl,sb,gdF (g:=(!false)==false&&true) rfl,sb,if_neg (by simp;intro j c;omega)];rfl
theorem Zr (F:Nat) (d:4<=F) (a b c:zA):Rw F [a,b,c]=some (turnB a&&turnB b&&turnB c):=by
 obtain ⟨n,rfl⟩:∃n,F=n+4:=⟨F-4,om⟩;show F7 [a,b,c] (Gp [a,b,c] (n+3)) ((0:Nat):Int)=_;rw [Vf _ _ 0 a rfl om]
 cases e:turnB a
 ·rfl
 ·show F7 [a,b,c] (Gp [a,b,c] (n+2)) ((1:Nat):Int)=_;rw [Vf _ _ 1 b rfl om]
  cases hb:turnB b
  ·rfl
  ·show F7 [a,b,c] (Gp [a,b,c] (n+1)) ((2:Nat):Int)=_;rw [Vf _ _ 2 c rfl om]
   cases f:turnB c
   ·rfl
   ·rfl
def inB (s:zA) (lo hi:Int):Bool:=decide (lo<=s.Lo/\s.Lo<=s.Hi/\s.Hi<=hi)
def noB (s:zA):Bool:=decide (s.Lo=0/\s.Hi=0)
def Zo (x:zD):Bool :=
 inB x.Power 0 1073741824&&(if x.Kind=1 then decide (x.Power.Lo=0)&&noB x.Steps.1&&noB x.Steps.2&&decide (x.Spread=0)&&noB x.Ratio&&noB x.Match&&noB x.Turn
  else decide (1<=x.Power.Lo)&&inB x.Ratio 0 1000000&&inB x.Match 0 1000&&decide (0<=x.Spread/\x.Spread<=65535) &&
   (if x.Kind=2 then noB x.Steps.1&&noB x.Steps.2&&noB x.Turn else turnB x.Steps.1&&turnB x.Steps.2&&turnB x.Turn))
def echoE (x:zD):Int:=if x.Kind≠1/\x.Kind≠2/\x.Kind≠3 then 2 else if Zo x=true then 0 else 3
theorem A2t (s:zA) (lo hi:Int):Aq s lo hi=inB s lo hi:=by
 unfold Aq inB;rw [Bool.eq_iff_iff];simp [cond_eq_ite];omega
theorem C01 (s:zA):(((s.Lo:Int)==0)&&(((s.Hi:Int)==0)&&true))=noB s:=by
 unfold noB;rw [Bool.eq_iff_iff];simp
theorem Z9 (s:zA):zA.mk s.Lo s.Hi=s:=rfl
theorem Vw (p1:zD):(zD.mk p1.Kind p1.Power ((zA.mk p1.Steps.1.Lo p1.Steps.1.Hi),(zA.mk p1.Steps.2.Lo p1.Steps.2.Hi)) p1.Spread p1.Ratio p1.Match p1.Turn)=p1:=rfl
theorem A6p (F:Nat) (e:4<=F) (x:zD):Mp F x=some (echoE x):=by
 unfold Mp Dw K6 Dw echoE Zo Ag;simp only [Z9,A2t,C01,Zr F e,Option.bind_some]
 by_cases b:x.Kind=1
 ·simp [b,cond_eq_ite];grind
 ·by_cases c:x.Kind=2
  ·simp [c,cond_eq_ite];grind
  ·by_cases d:x.Kind=3
   ·simp [d,cond_eq_ite];grind
   ·simp [b,c,d,cond_eq_ite]
theorem A3z (b:-4000000000000000000<=x/\x<=4000000000000000000) (c:0<y):Qy x y=some (x.tdiv y)/\(x.tdiv y<=4000000000000000000/\-4000000000000000000<=x.tdiv y):=by
 have hb:x.tdiv y<=4000000000000000000/\-4000000000000000000<=x.tdiv y:=by
  have h:=Int.natAbs_tdiv_le_natAbs x y;omega
 refine ⟨?_,hb⟩;unfold Qy;rw [if_neg om,ck1 om]
theorem Y4 (x y:Int) (b:0<y):x/y=if x.tmod y<0 then x.tdiv y-1 else x.tdiv y:=by
 have c:=Int.tmod_add_mul_tdiv x y;have d:x.tmod y<y:=by
  rcases Int.le_total 0 x with h|h
  ·exact Int.tmod_lt_of_pos x b
  ·exact Int.tmod_lt_of_pos x b
 have e:-y<x.tmod y:=by
  have:=Int.tmod_lt_of_pos (-x) b;rw [Int.neg_tmod] at this;omega
 split
 ·rename_i h
  apply Int.le_antisymm
  ·apply Int.le_of_lt_add_one;apply Int.ediv_lt_of_lt_mul b;have:(x.tdiv y-1+1)*y=y*x.tdiv y:=by rw [Int.sub_add_cancel,Int.mul_comm]
   omega
  ·apply Int.le_ediv_of_mul_le b;have:(x.tdiv y-1)*y=y*x.tdiv y-y:=by rw [Int.sub_mul,Int.one_mul,Int.mul_comm]
   omega
 ·rename_i h
  apply Int.le_antisymm
  ·apply Int.le_of_lt_add_one;apply Int.ediv_lt_of_lt_mul b;have:(x.tdiv y+1)*y=y*x.tdiv y+y:=by rw [Int.add_mul,Int.one_mul,Int.mul_comm]
   omega
  ·apply Int.le_ediv_of_mul_le b;have:x.tdiv y*y=y*x.tdiv y:=Int.mul_comm ..;omega
theorem Rd (F:Nat) (d:-4000000000000000000<=x/\x<=4000000000000000000) (b:0<y):L8 F x y=some (x/y):=by
 obtain ⟨h,hb⟩:=A3z d b;have f:=Int.tmod_add_mul_tdiv x y;have hm:x.tdiv y*y=y*x.tdiv y:=Int.mul_comm ..;have g:=Int.tmod_lt_of_pos x b;have e:x.natAbs.mod y.natAbs<=x.natAbs:=Nat.mod_le _ _;have i:(x.tmod y).natAbs<=x.natAbs:=by rw [Int.natAbs_tmod];exact e
 unfold L8;rw [h,sb,ckb om,Y4 x y b]
 by_cases c:x.tmod y<0
 ·rw [if_pos c,B8 (by simp;omega),ckb om]
 ·rw [if_neg c,Au (by simp;omega)]
theorem A3l (c:-4000000000000000000<=x/\x<=4000000000000000000) (b:0<y):-4000000000000000001<=x/y/\x/y<=4000000000000000000:=by
 have:=(A3z c b).2;rw [Y4 x y b]
 split<;>omega
theorem A1q (b:-4000000000000000001<=x/\x<=4000000000000000001):IntKind.i64.wrap (0-x)=-x:=by
 rw [Go.Eng.wrap64 om];omega
theorem Un (F:Nat) (c:-4000000000000000000<=x/\x<=4000000000000000000) (b:0<y):Pn F x y=some (-(-x/y)):=by
 have:=A3l (x:=-x) (y:=y) om b;unfold Pn;rw [A1q om,Rd F om b,sb,A1q om]
def A8b (t:zH) (w:Int):Int×Int :=
 if Sq t≠0 then (0,Sq t) else if w=0 then (t.First,0) else if w=1/\t.Kind≠1 then (t.Second,0) else (0,2)
theorem A37 (h:Sq t=0):X4 t=true:=by
 unfold Sq at h
 split at h
 ·cases h
 ·split at h
  ·assumption
  ·cases h
theorem A6q (F:Nat) (t:zH) (w:Int):Lv F (pt t) w=some (A8b t w):=by
 unfold Lv A8b;rw [Wi,sb]
 by_cases h:Sq t=0
 ·have b:=A37 h;unfold X4 at b;simp only [decide_eq_true_eq] at b;simp only [h,Ag,pt];have f:t.First≠0:=om
  by_cases h0:w=0
  ·subst h0;simp [f,cond_eq_ite]
  ·by_cases c:w=1
   ·subst c
    by_cases d:t.Kind=1
    ·have:t.Second=0:=om
     simp [d,this,cond_eq_ite]
    ·have:t.Second≠0:=om
     simp [d,this,cond_eq_ite]
   ·have e:(bif decide (0<=w) then decide (w<=1) else false)=false:=by simp [cond_eq_ite];omega
    rw [e];simp [h0,c,cond_eq_ite]
 ·rw [B8 (by simpa using h),if_pos h]
def us (t:zH) (w:Int):Int:=if w=0 then t.First else t.Second
def spd (t:zH) (w:Int) (s:zA) (k:Int):zA :=
 ⟨500*t.Lambda*(s.Lo+k*65536)/(65536*us t w),-(-(500*t.Lambda*(s.Hi+k*65536))/(65536*us t w))⟩
def hasT (t:zH) (w:Int):Prop:=Sq t=0/\(w=0\/(w=1/\t.Kind≠1))
theorem hasT.time (h:hasT t w):A8b t w=(us t w,0)/\200<=us t w/\us t w<=5000/\10000<=t.Lambda/\t.Lambda<=1000000:=by
 obtain ⟨c,b⟩:=h;have d:=A37 c;unfold X4 at d;simp only [decide_eq_true_eq] at d;unfold A8b us;rw [if_neg (by simpa using c)];rcases b with rfl|⟨rfl,b⟩
 ·simp;omega
 ·simp [b];omega
theorem A84 {L p:Int} (c:10000<=L/\L<=1000000) (b:-5000000<=p/\p<=5000000):-4000000000000000000<=500*L*p/\500*L*p<=4000000000000000000:=by
 have d:500*L*p<=500*L*5000000:=Int.mul_le_mul_of_nonneg_left b.2 om;have e:500*L*(-5000000)<=500*L*p:=Int.mul_le_mul_of_nonneg_left b.1 om;omega
theorem A08 (F:Nat) {k:Int} (h:hasT t w) (c:inB s (-131072) 131072=true) (e:-64<=k/\k<=64):Qg F (pt t) w s k=some (spd t w s k,0):=by
 obtain ⟨f,g,i,d⟩:=h.time;have b:=c;unfold inB at b;simp only [decide_eq_true_eq] at b;have b1:=A84 (p:=s.Lo+k*65536) d om;have b2:=A84 (p:=s.Hi+k*65536) d om;have j:Ag k (-64) 64=true:=by unfold Ag;simp [e]
 unfold Qg;rw [A6q,sb,f];simp only [A2t,c,j];refine Eq.trans (Au rfl) (Eq.trans (Au rfl) ?_);unfold Md Me;simp only [pt];rw [ckb om,ckb om,ckb om,ckb om,ckb om,Rd F om om,sb,sb,ckb om,ckb om,ckb om,ckb om,ckb om,Un F om om,sb,sb];rfl
def Ph (a b:zA):zA:=⟨if b.Lo>a.Lo then b.Lo else a.Lo,if b.Hi<a.Hi then b.Hi else a.Hi⟩
theorem W3 (a b:zA):Ac a b=(Ph a b,decide ((Ph a b).Lo<=(Ph a b).Hi)):=rfl
def stepOf (x:zD) (w:Int):zA:=if w=0 then x.Steps.1 else x.Steps.2
def spw (t:zH) (x:zD) (m w k:Int):zA:=Ph (spd t w (stepOf x w) k) ⟨-m,m⟩
def isw (t:zH) (x:zD) (m w k:Int):Bool:=decide ((spw t x m w k).Lo<=(spw t x m w k).Hi)
theorem A4h {x:zD} (h:echoE x=0) (c:x.Kind=3) (w:Int):inB (stepOf x w) (-131072) 131072=true:=by
 unfold echoE at h;rw [if_neg om] at h;have b:Zo x=true:=by
  split at h
  ·assumption
  ·cases h
 unfold Zo at b;rw [if_neg om,if_neg om] at b;simp only [Bool.and_eq_true] at b;unfold turnB inB stepOf at *;simp only [decide_eq_true_eq] at *
 split<;>omega
def kr:Nat->Int->List Int
 | 0,_=>[]
 | n+1,x=>x::kr n (x+1)
theorem B7l:∀{n:Nat} {x y:Int},y∈kr n x->x<=y/\y<x+n:=by
 intro n
 induction n with
 | zero=>intro x y h;cases h
 | succ n ih =>
  intro x y h;rcases List.mem_cons.1 h with rfl|h
  ·omega
  ·have:=ih h;omega
theorem B7k:∀(n:Nat) (x:Int),(kr n x).length=n:=by
 intro n
 induction n with
 | zero=>intro x;rfl
 | succ n ih=>intro x;simp [kr,ih]
section
variable {x:zD} {m:Int}
def og (t:zH) (x:zD) (m w k:Int):Option zM:=if isw t x m w k=true then some ⟨k,spw t x m w k⟩ else none
theorem B2k {σ:Type} (F:Nat) (body:σ->zM->Option (σ×Bool)) (k1:Int->σ->Option (σ×Bool)) (h:hasT t w) (c:∀w,inB (stepOf x w) (-131072) 131072=true) (hm:1<=m/\m<=200000) {k:Int} (b:-64<=k/\k<=64) (s:σ) :
  Eo F body (pt t) w x m k1 k s=bif isw t x m w k then (body s ⟨k,spw t x m w k⟩).bind (λq=>bif q.2 then k1 (k+1) q.1 else some (q.1,false)) else k1 (k+1) s:=by
 have hn:IntKind.i64.wrap (0-m)=-m:=A1q om;have d:∀{β:Type} (f:Int->Option β),(ck (k+1)).bind f=f (k+1):=λf=>ckb om;unfold Eo;rw [B8 (by simpa using b.2)];rcases h.2 with rfl|⟨rfl,e⟩
 ·refine Eq.trans (B8 rfl) ?_;rw [Z9,show x.Steps.1=stepOf x 0 from rfl,A08 F h (c 0) b,sb,hn];simp only [d];rfl
 ·refine Eq.trans (Au rfl) (Eq.trans (B8 rfl) ?_);rw [Z9,show x.Steps.2=stepOf x 1 from rfl,A08 F h (c 1) b,sb,hn];simp only [d];rfl
theorem B9f (l:List zM) (o:zM) (h:l.length<=1000):Gw (l,0) o=some ((l++[o],0),true):=by
 unfold Gw;rw [R9 (by simp;omega)]
theorem B2j (F:Nat) (h:hasT t w) (d:∀w,inB (stepOf x w) (-131072) 131072=true) (hm:1<=m/\m<=200000):∀(n N:Nat) (k:Int) (l:List zM),k+n=65->-64<=k->n<N->l.length+n<=1000 ->
  Fc F Gw (pt t) w x m N k (l,0)=some ((l++(kr n k).filterMap (og t x m w),0),true):=by
 intro n
 induction n with
 | zero =>
  intro N k l e b f g;obtain ⟨N,rfl⟩:∃N',N=N'+1:=⟨N-1,om⟩;show Eo F Gw (pt t) w x m (Fc F Gw (pt t) w x m N) k (l,0)=_;unfold Eo;rw [Au (by simp;omega)];simp [kr]
 | succ n ih =>
  intro N k l e b f g;obtain ⟨N,rfl⟩:∃N',N=N'+1:=⟨N-1,om⟩;show Eo F Gw (pt t) w x m (Fc F Gw (pt t) w x m N) k (l,0)=_;rw [B2k F _ _ h d hm om]
  cases c:isw t x m w k with
  | true =>
   rw [cond_true,B9f l _ om,sb];refine Eq.trans (B8 rfl) ?_;rw [ih N (k+1) _ om om om (by simp;omega)];simp [kr,og,c]
  | false =>
   rw [cond_false,ih N (k+1) _ om om om om];simp [kr,og,c]
def Td (t:zH) (x:zD) (m w:Int):List zM:=(kr 129 (-64)).filterMap (og t x m w)
theorem Uh:(Td t x m w).length<=129:=by
 have:=List.length_filterMap_le (og t x m w) (kr 129 (-64));rw [B7k] at this;exact this
theorem B2f {k:Int} {o:zM} (h:og t x m w k=some o):o.whole=k:=by
 unfold og at h
 split at h
 ·cases h;rfl
 ·cases h
theorem B8a {l:List Int} {o:zM} (h:o∈l.filterMap (og t x m w)):o.whole∈l:=by
 obtain ⟨k,b,ho⟩:=List.mem_filterMap.1 h;rw [B2f ho];exact b
theorem A6n:Td t x m w=(og t x m w (-64)).toList++(kr 127 (-63)).filterMap (og t x m w)++(og t x m w 64).toList:=by
 unfold Td;rw [show kr 129 (-64)=[-64]++kr 127 (-63)++[64] from by kernel_rfl,List.filterMap_append,List.filterMap_append]
 cases h:og t x m w (-64)<;>cases b:og t x m w 64<;>simp [h,b]
theorem A7x (F:Nat) (hF:200<=F) (h:hasT t w) (hs:∀w,inB (stepOf x w) (-131072) 131072=true) (hm:1<=m/\m<=200000) :
  T5 F (pt t) x w m=some (if isw t x m w (-64)=true\/isw t x m w 64=true then ([],false) else (Td t x m w,true)):=by
 unfold T5;rw [Vw];unfold Qq;rw [B2j F h hs hm 129 F (-64) [] om om om sm,sb];refine Eq.trans (B8 rfl) ?_;simp only [List.nil_append];rw [show (kr 129 (-64)).filterMap (og t x m w)=Td t x m w from rfl];have y:=Uh (t:=t) (x:=x) (m:=m) (w:=w);have f:∀o∈(kr 127 (-63)).filterMap (og t x m w),-63<=o.whole/\o.whole<=63:=λo ho=>by
  have:=B7l (B8a ho);omega
 have b:=A6n (t:=t) (x:=x) (m:=m) (w:=w);generalize Td t x m w=L at *;generalize (kr 127 (-63)).filterMap (og t x m w)=M at *
 cases z:isw t x m w (-64) with
 | true =>
  have e1:og t x m w (-64)=some ⟨-64,spw t x m w (-64)⟩:=by unfold og;rw [if_pos z]
  rw [e1] at b;have d:L=⟨-64,spw t x m w (-64)⟩::(M++(og t x m w 64).toList):=by rw [b];rfl
  have c:decide ((L.length:Int)>0)=true:=by rw [d];simp;omega
  have e:0<L.length:=by rw [d];simp
  have n:L.getD (0:Int).toNat default=⟨-64,spw t x m w (-64)⟩:=by rw [d];rfl
  simp only [c];have p:((L.getD (0:Int).toNat default).whole == -64)=true:=by rw [n];rfl
  rw [gdT (g:=true==true&&true) rfl,J3 default om,p,gdF (g:=true==false&&(true==true&&true)) rfl,sb,gdF (g:=true==false&&(true==true&&true)) rfl,sb,if_pos (Or.inl trivial)];rfl
 | false =>
  have e1:og t x m w (-64)=none:=by unfold og;rw [if_neg (by simp [z])]
  rw [e1] at b;simp only [Option.toList,List.nil_append] at b
  cases h2:isw t x m w 64 with
  | true =>
   have e2:og t x m w 64=some ⟨64,spw t x m w 64⟩:=by unfold og;rw [if_pos h2]
   rw [e2] at b;simp only at b;have e:0<L.length:=by rw [b];simp
   obtain ⟨u,n,j⟩:∃u,L.getD 0 default=u/\u∈L:=⟨_,rfl,by rw [List.getD_eq_getElem?_getD,List.getElem?_eq_getElem e];exact List.getElem_mem e⟩;have q:u.whole≠-64:=by
    rw [b] at j;rcases List.mem_append.1 j with h|h
    ·have:=f _ h;omega
    ·simp at h;rw [h];simp
   have c:decide ((L.length:Int)>0)=true:=by simp;omega
   have r:L.getD (0:Int).toNat default=u:=n;have k:(u.whole == -64)=false:=by simpa using q
   simp only [c];rw [gdT (g:=true==true&&true) rfl,J3 default om,r,k,gdT (g:=false==false&&(true==true&&true)) rfl,ckb om,gdT (g:=false==false&&(true==true&&true)) rfl,J3 default om,if_pos (Or.inr trivial)];refine Eq.trans (B8 ?_) rfl;refine Eq.trans (B8 rfl) (Eq.trans (Au rfl) ?_);have e3:((L.length:Int)-1).toNat=M.length:=by rw [b];simp
   rw [e3,b];simp [List.getD_eq_getElem?_getD]
  | false =>
   have e2:og t x m w 64=none:=by unfold og;rw [if_neg (by simp [h2])]
   rw [e2] at b;simp only [List.append_nil] at b;subst b;rw [if_neg sm]
   by_cases e:0<L.length
   ·have l:∀i,i<L.length->(L.getD i default).whole≠-64/\(L.getD i default).whole≠64:=λi hi=>by
     have:L.getD i default∈L:=by rw [List.getD_eq_getElem?_getD,List.getElem?_eq_getElem hi];exact List.getElem_mem hi
     have:=f _ this;omega
    have ha:=(l 0 e).1;have hb:=(l (L.length-1) om).2;have c:decide ((L.length:Int)>0)=true:=by simp;omega
    have s:((L.getD (0:Int).toNat default).whole == -64)=false:=by simpa using ha
    have v:((L.getD (L.length-1) default).whole==64)=false:=by simpa using hb
    have e3:((L.length:Int)-1).toNat=L.length-1:=om
    simp only [c];rw [gdT (g:=true==true&&true) rfl,J3 default om,s,gdT (g:=false==false&&(true==true&&true)) rfl,ckb om,gdT (g:=false==false&&(true==true&&true)) rfl,J3 default om,e3,v];rfl
   ·have:L=[]:=List.length_eq_zero_iff.1 om;subst this;rfl
end
def Sb (s:zA):Bool:=decide (s.Lo<=s.Hi)
def gg (u s:zM):Option zF:=if Sb (Ph u.speed s.speed)=true then some ⟨(u.whole,s.whole),Ph u.speed s.speed⟩ else none
theorem G7 {l:List α} (h:i<l.length) (d:α):l.drop i=l.getD i d::l.drop (i+1):=by
 rw [List.drop_eq_getElem_cons h,List.getD_eq_getElem?_getD,List.getElem?_eq_getElem h];rfl
theorem B2i (y4:List zM×Bool) (c:y4.1.length<=1000):∀(n N i:Nat) (acc:List zF),i+n=y4.1.length->n<N->acc.length+n<=1000000 ->
  Gd y4 N acc (i:Int)=some (acc++(y4.1.drop i).map (λf=>⟨(f.whole,0),f.speed⟩),true):=by
 intro n
 induction n with
 | zero =>
  intro N i acc hi d b;obtain ⟨N,rfl⟩:∃N',N=N'+1:=⟨N-1,om⟩;show J2 y4 (Gd y4 N) acc (i:Int)=_;unfold J2;rw [Au (by simp;omega),List.drop_eq_nil_of_le om];simp [Q0]
 | succ n ih =>
  intro N i acc hi d b;obtain ⟨N,rfl⟩:∃N',N=N'+1:=⟨N-1,om⟩;show J2 y4 (Gd y4 N) acc (i:Int)=_;unfold J2;rw [B8 (by simp;omega),J3 default om,Int.toNat_natCast,R9 (by simp;omega),ckb om];have:=ih N (i+1) (acc++[⟨((y4.1.getD i default).whole,0),(y4.1.getD i default).speed⟩]) om om (by simp;omega);rw [Int.natCast_add] at this;refine Eq.trans this ?_;rw [G7 (i:=i) om default];simp
theorem A9w (y72:List zM×Bool) (f:y72.1.length<=1000) (x8:Int) (k3:List zF->Int->Option (List zF×Bool)) (u:zM):∀(n N i:Nat) (acc:List zF),i+n=y72.1.length->n<N->acc.length+n<=1000000 ->
  Ex y72 x8 k3 u N acc (i:Int)=Mm x8 k3 (acc++(y72.1.drop i).filterMap (gg u)):=by
 intro n
 induction n with
 | zero =>
  intro N i acc hi e b;obtain ⟨N,rfl⟩:∃N',N=N'+1:=⟨N-1,om⟩;show J1 y72 x8 k3 u (Ex y72 x8 k3 u N) acc (i:Int)=_;unfold J1;rw [Au (by simp;omega),List.drop_eq_nil_of_le om];simp
 | succ n ih =>
  intro N i acc hi e b;obtain ⟨N,rfl⟩:∃N',N=N'+1:=⟨N-1,om⟩;show J1 y72 x8 k3 u (Ex y72 x8 k3 u N) acc (i:Int)=_;unfold J1;rw [B8 (by simp;omega),J3 default om,Int.toNat_natCast,W3];unfold Mn;rw [G7 (i:=i) om default];generalize y72.1.getD i default=v;have d:∀(l:List zF),(ck ((i:Int)+1)).bind (λx934=>Ex y72 x8 k3 u N l x934)=Ex y72 x8 k3 u N l ((i:Int)+1):=λl=>ckb om;simp only [d]
  cases c:Sb (Ph u.speed v.speed) with
  | true =>
   refine Eq.trans (B8 c) ?_;rw [R9 (by simp;omega)];have:=ih N (i+1) (acc++[⟨(u.whole,v.whole),Ph u.speed v.speed⟩]) om om (by simp;omega);rw [Int.natCast_add] at this;refine Eq.trans this ?_;simp [gg,c]
  | false =>
   refine Eq.trans (Au c) ?_;have:=ih N (i+1) acc om om om;rw [Int.natCast_add] at this;refine Eq.trans this ?_;simp [gg,c]
theorem B3h (F:Nat) (j:2000<=F) (y4 y72:List zM×Bool) (d:y4.1.length<=200) (e:y72.1.length<=200):∀(n N i:Nat) (acc:List zF),i+n=y4.1.length->n<N->acc.length+n*200<=100000 ->
  Ew F y4 y72 N acc (i:Int)=some (acc++(y4.1.drop i).flatMap (λu=>y72.1.filterMap (gg u)),y72.2):=by
 intro n
 induction n with
 | zero =>
  intro N i acc hi f b;obtain ⟨N,rfl⟩:∃N',N=N'+1:=⟨N-1,om⟩;show J0 F y4 y72 (Ew F y4 y72 N) acc (i:Int)=_;unfold J0;rw [Au (by simp;omega),List.drop_eq_nil_of_le om];simp [Pz]
 | succ n ih =>
  intro N i acc hi f b;obtain ⟨N,rfl⟩:∃N',N=N'+1:=⟨N-1,om⟩;show J0 F y4 y72 (Ew F y4 y72 N) acc (i:Int)=_;unfold J0;rw [B8 (by simp;omega),J3 default om,Int.toNat_natCast];rw [G7 (i:=i) om default];generalize y4.1.getD i default=u;have g:=A9w y72 om (i:Int) (Ew F y4 y72 N) u y72.1.length F 0 acc om om om;refine Eq.trans g ?_;unfold Mm;rw [ckb om,List.drop_zero];have c:=List.length_filterMap_le (gg u) y72.1;have:=ih N (i+1) (acc++y72.1.filterMap (gg u)) om om (by simp;omega);rw [Int.natCast_add] at this;refine Eq.trans this ?_;simp
section
variable {x:zD} {m:Int}
end
section
variable {x:zD} {m:Int}
theorem B2p:(((Td t x m 0).flatMap (λu=>(Td t x m 1).filterMap (gg u)))).length<=129*129:=by
 have b:=Uh (t:=t) (x:=x) (m:=m) (w:=0);have c:=Uh (t:=t) (x:=x) (m:=m) (w:=1);generalize Td t x m 0=L0 at *;generalize Td t x m 1=L1 at *;have:(L0.flatMap (λu=>L1.filterMap (gg u))).length<=L0.length*129:=by
  clear b
  induction L0 with
  | nil=>simp
  | cons a l ih =>
   have:=List.length_filterMap_le (gg a) L1;simp [Nat.add_mul] at ih ⊢;omega
 omega
def B0a (t:zH) (x:zD) (m w:Int):Prop:=isw t x m w (-64)=true\/isw t x m w 64=true
instance (w:Int):Decidable (B0a t x m w):=by unfold B0a;infer_instance
end
theorem A9q (F:Nat) (l:List zA) (hb:∀s∈l,spB s) (d:l.length<4611686018427387904):∃l',Kf F l=some l'/\l'.Perm l/\l'.Pairwise (λx y=>x.Lo<=y.Lo):=by
 unfold Kf;rw [dif_pos ⟨hb,d⟩];have b:∀x y:{s:zA // spB s},Go.Proofs.ltOf Rb x y=decide (x.val.Lo<y.val.Lo):=by
  intro x y;unfold Go.Proofs.ltOf Rb
  congr 1
  simp only [eq_iff_iff];omega
 have e:Go.Sort.SWO (Go.Proofs.ltOf Rb):=by
  constructor
  ·intro x;rw [b];simp
  ·intro x y z f c;rw [b] at *;simp at *;omega
  ·intro x y z f c;rw [b] at *;simp at *;omega
 obtain ⟨_,c,g⟩:=A0a Rb e (l.pmap Subtype.mk hb);refine ⟨_,rfl,?_,?_⟩
 ·have:=c.map Subtype.val;refine this.trans ?_;rw [List.map_pmap];simp
 ·rw [List.pairwise_map];refine g.imp ?_;intro x y h;rw [b] at h
  simpa using h
def mg:zA->List zA->List zA
 | c,[]=>[c]
 | c,x::xs=>if x.Lo<=c.Hi then mg ⟨c.Lo,if x.Hi>c.Hi then x.Hi else c.Hi⟩ xs else c::mg x xs
def W8:List zA->List zA
 | []=>[]
 | x::xs=>mg x xs
def closed (l:List zA) (H:Int):Prop:=∀x∈l,x.Lo<=H->x.Hi<=H
theorem A5s (y:List zA):∀(n N i:Nat) (pre:List zA) (c:zA),i+n=y.length->n<N->pre.length+n<=8000000000000->y.length<=8000000000000 ->
  Ca y N (i:Int) (pre++[c])=some (pre++mg c (y.drop i)):=by
 intro n
 induction n with
 | zero =>
  intro N i pre c hi o p m;obtain ⟨N,rfl⟩:∃N',N=N'+1:=⟨N-1,om⟩;show Co y (Ca y N) (i:Int) (pre++[c])=_;unfold Co;rw [Au (by simp;omega),List.drop_eq_nil_of_le om];rfl
 | succ n ih =>
  intro N i pre c hi o p m;obtain ⟨N,rfl⟩:∃N',N=N'+1:=⟨N-1,om⟩;show Co y (Ca y N) (i:Int) (pre++[c])=_;unfold Co;rw [G7 (i:=i) om default];rw [B8 (by simp;omega),J3 default om,Int.toNat_natCast];generalize y.getD i default=x;have b:(pre++[c]).length=pre.length+1:=by simp
  have e:decide ((((pre++[c]).length:Nat):Int)>0)=true:=by rw [b];simp
  have f:((((pre++[c]).length:Nat):Int)-1)=(pre.length:Nat):=by rw [b];omega
  have d:(pre++[c]).getD pre.length default=c:=by simp [List.getD_eq_getElem?_getD]
  simp only [e];rw [gdT (g:=true==true&&true) rfl,ckb (by rw [b];omega),gdT (g:=true==true&&true) rfl,f,J3 default (by rw [b];omega),Int.toNat_natCast,d];unfold Es;have j:∀(l:List zA),(ck ((i:Int)+1)).bind (λx179=>Ca y N x179 l)=Ca y N (((i+1:Nat):Int)) l:=λl=>by rw [ckb om,Int.natCast_add];rfl
  by_cases h:x.Lo<=c.Hi
  ·refine Eq.trans (B8 (by simpa using h)) ?_;rw [ckb om,ckb om,J3 default (by rw [b];omega),J3 default (by rw [b];omega),Int.toNat_natCast,d];unfold Ka;rw [if_pos (by rw [b];omega),sb,Int.toNat_natCast,j];have k:(pre++[c]).set pre.length ⟨c.Lo,if x.Hi>c.Hi then x.Hi else c.Hi⟩=pre++[⟨c.Lo,if x.Hi>c.Hi then x.Hi else c.Hi⟩]:=by simp
   rw [k,ih N (i+1) _ _ om om om om]
   conv=>rhs;unfold mg
   rw [if_pos h]
  ·refine Eq.trans (Au (by simpa using h)) ?_;rw [R9 (by rw [b];simp;omega),j,ih N (i+1) (pre++[c]) x om om (by rw [b];omega) om]
   conv=>rhs;unfold mg
   rw [if_neg h];simp
theorem A2i (F:Nat) (y:List zA) (c:y.length<F) (d:y.length<=1000000000000):Ca y F 0 []=some (W8 y):=by
 obtain ⟨N,rfl⟩:∃N',F=N'+1:=⟨F-1,om⟩;show Co y (Ca y N) 0 []=_;unfold Co
 cases y with
 | nil=>rfl
 | cons x xs =>
  have b:decide (((([]:List zA).length:Nat):Int)>0)=false:=rfl;rw [B8 sm,J3 default sm];simp only [b];rw [gdF (g:=false==true&&true) rfl,sb,gdF (g:=false==true&&true) rfl,sb];refine Eq.trans (Au rfl) ?_;rw [R9 sm];unfold Es;rw [ckb om];have:=A5s (x::xs) xs.length N 1 [] x (by simp;omega) (by simp at c;omega) (by simp at d ⊢;omega) om;exact this
theorem A9z (F:Nat) (l:List zA) (f:l.length<F) (g:l.length<=1000000000000) (hb:∀s∈l,spB s):∃l',Du F l=some (W8 l')/\l'.Perm l/\l'.Pairwise (λx y=>x.Lo<=y.Lo):=by
 obtain ⟨l',d,b,e⟩:=A9q F l hb om;refine ⟨l',?_,b,e⟩;unfold Du Cs;have c:=b.length_eq;rw [R9 (by simp;omega),sb,List.nil_append,d,sb,A2i F l' om om]
section
variable {out left:List zA} {k2:List zA->List zA->Option (List zA)}
def pass:Int->Bool->List zA->Int×Bool
 | H,c,[]=>(H,c)
 | H,c,x::xs=>if x.Lo<=H/\x.Hi>H then pass x.Hi true xs else pass H c xs
end
theorem B7u:∀(xs:List zA) (c:zA),(mg c xs).length<=xs.length+1:=by
 intro xs
 induction xs with
 | nil=>intro c;simp [mg]
 | cons x xs ih =>
  intro c;unfold mg
  split
  ·have:=ih ⟨c.Lo,if x.Hi>c.Hi then x.Hi else c.Hi⟩;rw [List.length_cons];omega
  ·have:=ih x;simp;omega
theorem A6l (l:List zA):(W8 l).length<=l.length:=by
 cases l with
 | nil=>simp [W8]
 | cons x xs=>exact B7u xs x
def inS (z:Int) (s:zA):Prop:=2*s.Lo<=z/\z<=2*s.Hi
def mem (z:Int) (l:List zA):Prop:=∃s∈l,inS z s
def valid (l:List zA):Prop:=∀s∈l,s.Lo<=s.Hi
def Canon (l:List zA):Prop:=l.Pairwise (λa b=>a.Hi<b.Lo)/\valid l
theorem Rv (z:Int):¬mem z []:=by rintro ⟨s,b,_⟩;cases b
theorem mem_cons:mem z (s::l)↔inS z s\/mem z l:=by
 constructor
 ·rintro ⟨t,b,h⟩;rcases List.mem_cons.1 b with rfl|b
  ·exact .inl h
  ·exact .inr ⟨t,b,h⟩
 ·rintro (h|⟨t,b,h⟩)
  ·exact ⟨s,sm,h⟩
  ·exact ⟨t,by simp [b],h⟩
theorem Canon.tail (h:Canon (s::l)):Canon l:=⟨(List.pairwise_cons.1 h.1).2,λt b=>h.2 t (by simp [b])⟩
theorem Canon.beyond (h:Canon (s::l)) (b:mem z l):2*s.Hi+2<=z:=by
 obtain ⟨t,c,d,_⟩:=b;have:=(List.pairwise_cons.1 h.1).1 t c;omega
theorem Yb:∀{a b:List zA},Canon a->Canon b->(∀z,mem z a↔mem z b)->a=b:=by
 intro a
 induction a with
 | nil =>
  intro b _ hb h
  cases b with
  | nil=>rfl
  | cons t b =>
   have i:=hb.2 t sm;exact absurd ((h (2*t.Lo)).2 (mem_cons.2 (.inl ⟨om,om⟩))) (Rv _)
 | cons s a ih =>
  intro b e hb h;have j:=e.2 s sm
  cases b with
  | nil=>exact absurd ((h (2*s.Lo)).1 (mem_cons.2 (.inl ⟨om,om⟩))) (Rv _)
  | cons t b =>
   have k:=hb.2 t sm;have e1:s.Lo=t.Lo:=by
    have c:2*t.Lo<=2*s.Lo:=by
     rcases mem_cons.1 ((h (2*s.Lo)).1 (mem_cons.2 (.inl ⟨om,om⟩))) with c|c
     ·exact c.1
     ·have:=hb.beyond c;omega
    have l:2*s.Lo<=2*t.Lo:=by
     rcases mem_cons.1 ((h (2*t.Lo)).2 (mem_cons.2 (.inl ⟨om,om⟩))) with c|c
     ·exact c.1
     ·have:=e.beyond c;omega
    omega
   have e2:s.Hi=t.Hi:=by
    rcases Int.lt_trichotomy s.Hi t.Hi with d|d|d
    ·rcases mem_cons.1 ((h (2*s.Hi+1)).2 (mem_cons.2 (.inl ⟨om,om⟩))) with c|c
     ·have:=c.2;omega
     ·have:=e.beyond c;omega
    ·exact d
    ·rcases mem_cons.1 ((h (2*t.Hi+1)).1 (mem_cons.2 (.inl ⟨om,om⟩))) with c|c
     ·have:=c.2;omega
     ·have:=hb.beyond c;omega
   have e3:s=t:=by cases s;cases t;simp_all
   subst e3;rw [ih e.tail hb.tail];intro z;constructor
   ·intro f;have g:=e.beyond f;rcases mem_cons.1 ((h z).1 (mem_cons.2 (.inr f))) with c|c
    ·have:=c.2;omega
    ·exact c
   ·intro f;have g:=hb.beyond f;rcases mem_cons.1 ((h z).2 (mem_cons.2 (.inr f))) with c|c
    ·have:=c.2;omega
    ·exact c
theorem B7v:∀(xs:List zA) (c:zA),c.Lo<=c.Hi->xs.Pairwise (λx y=>x.Lo<=y.Lo)->(∀x∈xs,c.Lo<=x.Lo)->valid xs ->
  (∀z,mem z (mg c xs)↔inS z c\/mem z xs)/\Canon (mg c xs)/\∀s∈mg c xs,c.Lo<=s.Lo:=by
 intro xs
 induction xs with
 | nil =>
  intro c g _ _ _;refine ⟨λz=>mem_cons,⟨by simp [mg],λs b=>?_⟩,λs b=>?_⟩<;>simp [mg] at b<;>subst b
  ·exact g
  ·exact Int.le_refl _
 | cons x xs ih =>
  intro c g b k i;have l:=i x sm;have m:=k x sm;rw [List.pairwise_cons] at b;unfold mg
  by_cases h:x.Lo<=c.Hi
  ·rw [if_pos h];obtain ⟨j,e,f⟩:=ih ⟨c.Lo,if x.Hi>c.Hi then x.Hi else c.Hi⟩ (by simp only;split<;>omega) b.2 (λy d=>k y (by simp [d])) (λy d=>i y (by simp [d]));refine ⟨λz=>?_,e,f⟩;rw [j z,mem_cons];have:inS z ⟨c.Lo,if x.Hi>c.Hi then x.Hi else c.Hi⟩↔inS z c\/inS z x:=by
    unfold inS;simp only
    split<;>omega
   rw [this,or_assoc]
  ·rw [if_neg h];obtain ⟨j,e,f⟩:=ih x l b.2 b.1 (λy d=>i y (by simp [d]));refine ⟨λz=>?_,⟨List.pairwise_cons.2 ⟨λy d=>?_,e.1⟩,λs b=>?_⟩,λs b=>?_⟩
   ·rw [mem_cons,j z,mem_cons]
   ·have:=f y d;omega
   ·rcases List.mem_cons.1 b with rfl|b
    ·exact g
    ·exact e.2 s b
   ·rcases List.mem_cons.1 b with rfl|b
    ·exact Int.le_refl _
    ·have:=f s b;omega
theorem Xq (b:l.Pairwise (λx y=>x.Lo<=y.Lo)) (c:valid l):(∀z,mem z (W8 l)↔mem z l)/\Canon (W8 l):=by
 cases l with
 | nil=>exact ⟨λz=>Iff.rfl,⟨List.Pairwise.nil,λs b=>by cases b⟩⟩
 | cons x xs =>
  rw [List.pairwise_cons] at b;obtain ⟨d,e,_⟩:=B7v xs x (c x sm) b.2 b.1 (λy f=>c y (by simp [f]));exact ⟨λz=>(d z).trans mem_cons.symm,e⟩
def un (l:List zA):List zA:=W8 (l.mergeSort (λx y=>decide (x.Lo<=y.Lo)))
theorem A0b (l:List zA):(l.mergeSort (λx y=>decide (x.Lo<=y.Lo))).Pairwise (λx y=>x.Lo<=y.Lo):=by
 have:=List.pairwise_mergeSort (le:=λx y:zA=>decide (x.Lo<=y.Lo)) (λa b c d e=>by simp at *;omega) (λa b=>by simp;omega) l;exact this.imp (λh=>by simpa using h)
theorem A58 {a:List zA} (h:a.Perm b) (z:Int):mem z a↔mem z b:=by
 constructor
 ·rintro ⟨s,c,d⟩;exact ⟨s,h.mem_iff.1 c,d⟩
 ·rintro ⟨s,c,d⟩;exact ⟨s,h.mem_iff.2 c,d⟩
theorem Xw {a:List zA} (h:a.Perm b) (c:valid b):valid a:=λs d=>c s (h.mem_iff.1 d)
theorem Zy (c:valid l) (z:Int):mem z (un l)↔mem z l:=by
 have b:=List.mergeSort_perm l (λx y=>decide (x.Lo<=y.Lo));exact ((Xq (A0b l) (Xw b c)).1 z).trans (A58 b z)
theorem Um (b:valid l):Canon (un l):=(Xq (A0b l) (Xw (List.mergeSort_perm l _) b)).2
theorem A9x {σ:List zA} (c:σ.Perm l) (d:σ.Pairwise (λx y=>x.Lo<=y.Lo)) (b:valid l):W8 σ=un l:=by
 obtain ⟨e,f⟩:=Xq d (Xw c b);exact Yb f (Um b) λz=>(e z).trans ((A58 c z).trans (Zy b z).symm)
def Ro (B:Int) (l:List zA):Prop:=∀s∈l,-B<=s.Lo/\s.Hi<=B
theorem S3 {B:Int} (c:valid l) (h:∀z,mem z l->-2*B<=z/\z<=2*B):Ro B l:=by
 intro s b;have d:=c s b;have e:=h (2*s.Lo) ⟨s,b,by unfold inS;omega⟩;have f:=h (2*s.Hi) ⟨s,b,by unfold inS;omega⟩;omega
theorem Ta {B:Int} (h:Ro B l) (b:mem z l):-2*B<=z/\z<=2*B:=by
 obtain ⟨s,c,d,e⟩:=b;have:=h s c;omega
theorem A8m:∀{l:List zA} {lo hi:Int},Canon l->(∀s∈l,lo<=s.Lo/\s.Hi<=hi)->lo<=hi+1->(l.length:Int)<=hi-lo+1:=by
 intro l
 induction l with
 | nil=>intro lo hi _ _ h;simp;omega
 | cons s l ih =>
  intro lo hi b hb h;have e:=hb s sm;have f:=b.2 s sm;have d:=(List.pairwise_cons.1 b.1).1;have:=ih (lo:=s.Hi+1) (hi:=hi) b.tail (λt c=>⟨by have:=d t c;omega,(hb t (by simp [c])).2⟩) om;simp;omega
def wd (l:List zA) (d:Int):List zA:=un (l.map λs=>⟨s.Lo-d,s.Hi+d⟩)
theorem A26 (b:valid l) (hd:0<=d):valid (l.map λs=>(⟨s.Lo-d,s.Hi+d⟩:zA)):=by
 intro s c;obtain ⟨t,e,rfl⟩:=List.mem_map.1 c;have:=b t e;simp only;omega
theorem B9a (c:valid l) (hd:0<=d) (z:Int):mem z (wd l d)↔∃y,mem y l/\y-2*d<=z/\z<=y+2*d:=by
 unfold wd;rw [Zy (A26 c hd)];constructor
 ·rintro ⟨s,g,e,f⟩;obtain ⟨t,b,rfl⟩:=List.mem_map.1 g;have i:=c t b;simp only at e f
  by_cases j:z<2*t.Lo
  ·exact ⟨2*t.Lo,⟨t,b,by unfold inS;omega⟩,om,om⟩
  ·by_cases hb:2*t.Hi<z
   ·exact ⟨2*t.Hi,⟨t,b,by unfold inS;omega⟩,om,om⟩
   ·exact ⟨z,⟨t,b,by unfold inS;omega⟩,om,om⟩
 ·rintro ⟨y,⟨t,b,e,f⟩,k,m⟩;exact ⟨_,List.mem_map.2 ⟨t,b,rfl⟩,by unfold inS;simp only;omega⟩
def cm (a b:zA):Option zA:=if Sb (Ph a b)=true then some (Ph a b) else none
theorem A4k {a b:zA} :inS z (Ph a b)↔inS z a/\inS z b:=by
 unfold Ph inS;simp only
 split<;>split<;>omega
theorem B0j {a b:zA} :(∃s,cm a b=some s/\inS z s)↔inS z a/\inS z b:=by
 rw [←A4k];unfold cm Sb;simp only [decide_eq_true_eq];constructor
 ·rintro ⟨s,h,d⟩
  by_cases c:(Ph a b).Lo<=(Ph a b).Hi
  ·rw [if_pos c] at h;cases h;exact d
  ·rw [if_neg c] at h;cases h
 ·intro h;rw [if_pos (by unfold inS at h;omega)];exact ⟨_,rfl,h⟩
theorem A4i {a b:zA} (h:cm a b=some s):s.Lo<=s.Hi:=by
 unfold cm Sb at h;simp only [decide_eq_true_eq] at h
 by_cases c:(Ph a b).Lo<=(Ph a b).Hi
 ·rw [if_pos c] at h;cases h;exact c
 ·rw [if_neg c] at h;cases h
def prs (a b:List zA):List zA:=a.flatMap λx=>b.filterMap (cm x)
theorem A33 (a b:List zA):valid (prs a b):=by
 intro s c;obtain ⟨x,_,c⟩:=List.mem_flatMap.1 c;obtain ⟨y,_,c⟩:=List.mem_filterMap.1 c;exact A4i c
theorem B4u (a b:List zA) (z:Int):mem z (prs a b)↔mem z a/\mem z b:=by
 constructor
 ·rintro ⟨s,c,d⟩;obtain ⟨x,e,c⟩:=List.mem_flatMap.1 c;obtain ⟨y,f,c⟩:=List.mem_filterMap.1 c;obtain ⟨g,i⟩:=B0j.1 ⟨s,c,d⟩;exact ⟨⟨x,e,g⟩,⟨y,f,i⟩⟩
 ·rintro ⟨⟨x,e,g⟩,⟨y,f,i⟩⟩;obtain ⟨s,c,d⟩:=B0j.2 ⟨g,i⟩;exact ⟨s,List.mem_flatMap.2 ⟨x,e,List.mem_filterMap.2 ⟨y,f,c⟩⟩,d⟩
def mt (a b:List zA):List zA:=un (prs a b)
theorem Xr (a b:List zA) (z:Int):mem z (mt a b)↔mem z a/\mem z b:=(Zy (A33 a b) z).trans (B4u a b z)
theorem Tb (a b:List zA):Canon (mt a b):=Um (A33 a b)
def nr (a b:List zA) (d:Int):List zA:=mt a (wd b d)
theorem Xt {a:List zA} (c:valid b) (hd:0<=d) (z:Int):mem z (nr a b d)↔mem z a/\∃y,mem y b/\y-2*d<=z/\z<=y+2*d:=by
 unfold nr;rw [Xr,B9a c hd]
theorem A1r (a b:List zA) (d:Int):Canon (nr a b d):=Tb _ _
theorem A9i {B:Int} {a:List zA} (c:valid b) (hd:0<=d) (h:Ro B a):Ro B (nr a b d) :=
 S3 (A1r _ _ _).2 λz e=>Ta h ((Xt c hd z).1 e).1
def tp:Nat->List zA->List zA->List zA
 | 0,_,_=>[]
 | n+1,a::ys,b::zs=>(cm a b).toList++(if a.Hi<b.Hi then tp n ys (b::zs) else tp n (a::ys) zs)
 | _+1,_,_=>[]
theorem A24:∀(n:Nat) (a b:List zA),valid (tp n a b):=by
 intro n
 induction n with
 | zero=>intro a b s c;simp [tp] at c
 | succ n ih =>
  intro a b s c
  cases a with
  | nil=>simp [tp] at c
  | cons x a =>
   cases b with
   | nil=>simp [tp] at c
   | cons y b =>
    unfold tp at c;rcases List.mem_append.1 c with c|c
    ·cases d:cm x y with
     | none=>rw [d] at c;simp at c
     | some t=>rw [d] at c;simp at c;subst c;exact A4i d
    ·split at c
     ·exact ih _ _ s c
     ·exact ih _ _ s c
theorem B4o {a:List zA} :mem z (a++b)↔mem z a\/mem z b:=by
 constructor
 ·rintro ⟨s,d,c⟩;rcases List.mem_append.1 d with h|h
  ·exact .inl ⟨s,h,c⟩
  ·exact .inr ⟨s,h,c⟩
 ·rintro (⟨s,h,c⟩|⟨s,h,c⟩)
  ·exact ⟨s,List.mem_append.2 (.inl h),c⟩
  ·exact ⟨s,List.mem_append.2 (.inr h),c⟩
theorem B7t {a b:zA} :mem z (cm a b).toList↔inS z a/\inS z b:=by
 rw [←B0j];constructor
 ·rintro ⟨s,c,d⟩
  cases e:cm a b with
  | none=>rw [e] at c;simp at c
  | some t=>rw [e] at c;simp at c;subst c;exact ⟨_,rfl,d⟩
 ·rintro ⟨s,c,d⟩;exact ⟨s,by rw [c];simp,d⟩
theorem B3d:∀(n:Nat) (a b:List zA),a.length+b.length<=n->Canon a->Canon b->∀z,mem z (tp n a b)↔mem z a/\mem z b:=by
 intro n
 induction n with
 | zero =>
  intro a b hn _ _ z;have:a=[]:=List.length_eq_zero_iff.1 om;subst this;exact ⟨λh=>absurd h (Rv z),λh=>absurd h.1 (Rv z)⟩
 | succ n ih =>
  intro a b hn f hb z
  cases a with
  | nil=>exact ⟨λh=>absurd h (Rv z),λh=>absurd h.1 (Rv z)⟩
  | cons x a =>
   cases b with
   | nil=>exact ⟨λh=>absurd h (Rv z),λh=>absurd h.2 (Rv z)⟩
   | cons y b =>
    simp only [List.length_cons] at hn;unfold tp;rw [B4o,B7t]
    by_cases e:x.Hi<y.Hi
    ·rw [if_pos e,ih a (y::b) (by simp only [List.length_cons];omega) f.tail hb z];constructor
     ·rintro (⟨c,d⟩|⟨c,d⟩)
      ·exact ⟨mem_cons.2 (.inl c),mem_cons.2 (.inl d)⟩
      ·exact ⟨mem_cons.2 (.inr c),d⟩
     ·rintro ⟨c,d⟩;rcases mem_cons.1 c with c|c
      ·rcases mem_cons.1 d with d|d
       ·exact .inl ⟨c,d⟩
       ·have:=hb.beyond d;have:=c.2;omega
      ·exact .inr ⟨c,d⟩
    ·rw [if_neg e,ih (x::a) b (by simp only [List.length_cons];omega) f hb.tail z];constructor
     ·rintro (⟨c,d⟩|⟨c,d⟩)
      ·exact ⟨mem_cons.2 (.inl c),mem_cons.2 (.inl d)⟩
      ·exact ⟨c,mem_cons.2 (.inr d)⟩
     ·rintro ⟨c,d⟩;rcases mem_cons.1 d with d|d
      ·rcases mem_cons.1 c with c|c
       ·exact .inl ⟨c,d⟩
       ·have:=f.beyond c;have:=d.2;omega
      ·exact .inr ⟨c,d⟩
theorem B91:∀(n:Nat) (a b:List zA),(tp n a b).length<=n:=by
 intro n
 induction n with
 | zero=>intro a b;simp [tp]
 | succ n ih =>
  intro a b
  cases a with
  | nil=>simp [tp]
  | cons x a =>
   cases b with
   | nil=>simp [tp]
   | cons y b =>
    unfold tp;have c:(cm x y).toList.length<=1:=by cases cm x y<;>simp
    rw [List.length_append]
    split
    ·have:=ih a (y::b);omega
    ·have:=ih (x::a) b;omega
theorem C0k {a:List zA} (hn:a.length+b.length<=n) (c:Canon a) (hb:Canon b):un (tp n a b)=mt a b :=
 Yb (Um (A24 n a b)) (Tb a b) λz=>(Zy (A24 n a b) z).trans ((B3d n a b hn c hb z).trans (Xr a b z).symm)
def FF:Nat:=2000000000000
theorem Zm (i:Nat):((i:Int)+1)=((i+1:Nat):Int):=om
theorem Zz (b:FF<=F) (c:valid l) (hb:∀s∈l,spB s) (d:l.length<=1000000000000):Du F l=some (un l):=by
 unfold FF at b;obtain ⟨σ,e,f,g⟩:=A9z F l om d hb;rw [e,A9x f g c]
section
theorem B00 (F:Nat) (b:Ro 1000000000 l) (c:valid l) (hd:0<=d/\d<=1000000000) (j:l.length<=1000000000000):∀(n N i:Nat) (acc:List zA),i+n=l.length->n<N->acc.length+n<=1000000000000 ->
  Ef F l d N (i:Int) acc=J6 F (acc++(l.drop i).map λs=>⟨s.Lo-d,s.Hi+d⟩):=by
 intro n
 induction n with
 | zero =>
  intro N i acc hi e f;obtain ⟨N,rfl⟩:∃N',N=N'+1:=⟨N-1,om⟩;show Ee F l d (Ef F l d N) (i:Int) acc=_;unfold Ee;rw [Au (by simp;omega),List.drop_eq_nil_of_le om];simp
 | succ n ih =>
  intro N i acc hi e f;obtain ⟨N,rfl⟩:∃N',N=N'+1:=⟨N-1,om⟩;show Ee F l d (Ef F l d N) (i:Int) acc=_;unfold Ee;have hm:l.getD i default∈l:=by rw [List.getD_eq_getElem?_getD,List.getElem?_eq_getElem (by omega:i<l.length)];exact List.getElem_mem _
  have hb:=b _ hm;rw [G7 (i:=i) om default];rw [B8 (by simp;omega),J3 default om,Int.toNat_natCast];have g:=c _ hm;generalize l.getD i default=x at *;rw [ckb om,ckb om,R9 (by simp;omega),ckb om,Zm,ih N (i+1) _ om om (by simp;omega)];simp
theorem B9b (c:Ro 1000000000 l) (e:valid l) (hd:0<=d/\d<=1000000000):∀s∈l.map (λs=>(⟨s.Lo-d,s.Hi+d⟩:zA)),spB s:=by
 intro s f;obtain ⟨t,b,rfl⟩:=List.mem_map.1 f;have:=c t b;have:=e t b;unfold spB;simp only;omega
theorem B5w (e:FF<=F) (f:Ro 1000000000 l) (b:valid l) (hd:0<=d/\d<=1000000000) (g:l.length<=1000000000000):Ls F l d=some (wd l d):=by
 have c:=e;unfold FF at c;unfold Ls;have i:=B00 F f b hd g l.length F 0 [] om om (by simp;omega);refine Eq.trans i ?_;unfold J6;rw [List.drop_zero,List.nil_append,Zz e (A26 b hd.1) (B9b f b hd) (by simpa using g),sb];rfl
end
theorem cmB {a b:zA} (x y:β):(bif (decide ((Ph a b).Lo<=(Ph a b).Hi)) then x else y)=match cm a b with|some _=>x|none=>y:=by
 unfold cm Sb
 by_cases h:(Ph a b).Lo<=(Ph a b).Hi<;>simp [h]
section
variable {a:List zA}
theorem A9g (F:Nat) (u:a.length<=100000000000) (hb:b.length<=100000000000):∀(n N i k:Nat) (acc:List zA),i<=a.length->k<=b.length->a.length-i+(b.length-k)<=n->n<N->acc.length+n<=1000000000000 ->
  Dl F a b N acc (i:Int) (k:Int)=G8 F (acc++tp n (a.drop i) (b.drop k)):=by
 intro n
 induction n with
 | zero =>
  intro N i k acc hi j hn p e;obtain ⟨N,rfl⟩:∃N',N=N'+1:=⟨N-1,om⟩;show Ed F a b (Dl F a b N) acc (i:Int) (k:Int)=_;unfold Ed;rw [Au (by simp [cond_eq_ite];omega)];simp [tp]
 | succ n ih =>
  intro N i k acc hi j hn p e;obtain ⟨N,rfl⟩:∃N',N=N'+1:=⟨N-1,om⟩;show Ed F a b (Dl F a b N) acc (i:Int) (k:Int)=_;unfold Ed
  by_cases l:i<a.length
  ·by_cases m:k<b.length
   ·rw [B8 (by simp [cond_eq_ite];omega),J3 default om,J3 default om,Int.toNat_natCast,Int.toNat_natCast,W3];have ga:∀{β:Type} (f:zA->Option β),(Av a (i:Int)).bind f=f (a.getD i default):=λf=>by rw [J3 default om,Int.toNat_natCast]
    have gb:∀{β:Type} (f:zA->Option β),(Av b (k:Int)).bind f=f (b.getD k default):=λf=>by rw [J3 default om,Int.toNat_natCast]
    rw [G7 (i:=i) l default,G7 (i:=k) m default];generalize q:a.getD i default=x at *;generalize r:b.getD k default=y at *;have o:∀(c:List zA),c.length+n<=1000000000000->G9 a b (i:Int) (k:Int) (Dl F a b N) c=G8 F (c++if x.Hi<y.Hi then tp n (a.drop (i+1)) (y::b.drop (k+1)) else tp n (x::a.drop (i+1)) (b.drop (k+1))):=by
     intro c g;unfold G9;rw [ga,gb]
     by_cases d:x.Hi<y.Hi
     ·rw [B8 (by simpa using d),ckb om,Zm,ih N (i+1) k c om j om om g,if_pos d,G7 (i:=k) m default,r]
     ·rw [Au (by simpa using d),ckb om,Zm,ih N i (k+1) c hi om om om g,if_neg d,G7 (i:=i) l default,q]
    refine Eq.trans (cmB _ _) ?_
    conv=>rhs;unfold tp
    cases g:cm x y with
    | none=>simp only;rw [o acc om];simp
    | some s =>
     have t:s=Ph x y:=by unfold cm at g;split at g<;>simp_all
     subst t;simp only;rw [R9 (by simp;omega),o _ (by simp;omega)];simp
   ·rw [Au (by simp [cond_eq_ite];omega),List.drop_eq_nil_of_le (by omega:b.length<=k)]
    cases a.drop i<;>simp [tp]
  ·rw [Au (by simp [cond_eq_ite];omega),List.drop_eq_nil_of_le (by omega:a.length<=i)];simp [tp]
theorem A80 (g:FF<=F) (k:a.length<=100000000000) (hb:b.length<=100000000000) (c:Canon a) (d:Canon b) (l:Ro 1000000000 a):Jp F a b=some (mt a b):=by
 have e:=g;unfold FF at e;unfold Jp;have m:=A9g F k hb (a.length+b.length) F 0 0 [] om om om om (by simp;omega);refine Eq.trans m ?_;unfold G8;have i:=B91 (a.length+b.length) a b;have f:=A24 (a.length+b.length) a b;have n:Ro 1000000000 (tp (a.length+b.length) a b):=S3 f λz o=>Ta l ((B3d _ a b (Nat.le_refl _) c d z).1 o).1;rw [List.drop_zero,List.drop_zero,List.nil_append,Zz g f (λs j=>by have:=n s j;have:=f s j;unfold spB;omega) om,sb,C0k (Nat.le_refl _) c d]
end
def Good (l:List zA):Prop:=Canon l/\Ro 200000 l
theorem Good.len (h:Good l):l.length<=400001:=by
 have:=A8m (lo:=-200000) (hi:=200000) h.1 h.2 om;omega
theorem B95 (l:List zA):(un l).length<=l.length:=by
 have:=A6l (l.mergeSort (λx y=>decide (x.Lo<=y.Lo)));rw [List.length_mergeSort] at this;exact this
theorem B99 (l:List zA) (d:Int):(wd l d).length<=l.length:=by
 have:=B95 (l.map λs=>(⟨s.Lo-d,s.Hi+d⟩:zA))
 simpa [wd] using this
theorem Good.nr {a:List zA} (c:Good a) (hb:Good b) (hd:0<=d):Good (nr a b d):=⟨A1r a b d,A9i hb.1.2 hd c.2⟩
theorem Good.mt {a:List zA} (c:Good a):Good (mt a b):=⟨Tb a b,S3 (Tb a b).2 λz d=>Ta c.2 ((Xr a b z).1 d).1⟩
theorem Good.big (h:Good l):Ro 1000000000 l:=λs b=>by have:=h.2 s b;omega
theorem B4p (e:FF<=F) {a:List zA} (c:Good a) (hb:Good b) (hd:0<=d/\d<=1000000000):Gk F a b d=some (nr a b d):=by
 have f:=c.len;have g:=hb.len;have i:=B99 b d;unfold Gk;rw [B5w e hb.big hb.1.2 hd om,sb,A80 e om om c.1 (show Canon (wd b d) from Um (A26 hb.1.2 hd.1)) c.big,sb];rfl
abbrev S4:=List (List zA)
def gt (S:S4) (i:Nat):List zA:=S.getD i []
def ne (S:S4) (i:Nat):Bool:=decide ((gt S i).length>0)
def lk (S:S4) (br:Int) (i j:Nat):Prop:=i<j/\j<S.length/\ne S i=true/\ne S j=true/\(∀x,i<x->x<j->ne S x=false)/\(j:Int)-i<=br
section
variable (S:S4) (br jp:Int)
end
def AllGood (f:S4):Prop:=∀x∈f,Good x
theorem A4w:Good []:=⟨⟨.nil,λs b=>by cases b⟩,λs b=>by cases b⟩
theorem AllGood.gt {f:S4} (h:AllGood f) (i:Nat):Good (gt f i):=by
 unfold Proofs.YtfkeddejdahnhaaGreatDoor.gt;rw [List.getD_eq_getElem?_getD]
 by_cases hi:i<f.length
 ·rw [List.getElem?_eq_getElem hi];exact h _ (List.getElem_mem hi)
 ·rw [List.getElem?_eq_none om];exact A4w
theorem AllGood.set {f:S4} (h:AllGood f) (i:Nat) {x:List zA} (c:Good x):AllGood (f.set i x):=by
 intro y d;rcases List.mem_or_eq_of_mem_set d with b|b
 ·exact h y b
 ·rw [b];exact c
theorem B7f {f:S4} {j:Nat} {x:List zA} (hi:i<f.length):gt (f.set i x) j=if i=j then x else gt f j:=by
 unfold gt;rw [List.getD_eq_getElem?_getD,List.getD_eq_getElem?_getD,List.getElem?_set]
 by_cases h:i=j
 ·rw [if_pos h,if_pos h,if_pos hi];rfl
 ·rw [if_neg h,if_neg h]
section
variable {S:S4}
theorem B1a {f:S4} (hi:i<f.length) (k:List zA->Option β):(Av f (i:Int)).bind k=k (gt f i):=by
 rw [J3 [] om,Int.toNat_natCast];rfl
end
section
variable {S:S4}
theorem C10 {f:S4} {x:List zA} (hi:i<f.length) (k:S4->Option β):(Ka f (i:Int) x).bind k=k (f.set i x):=by
 unfold Ka;rw [if_pos om,sb,Int.toNat_natCast]
end
section
variable {S:S4}
def Kn (S:S4):List Nat:=(List.range S.length).filter (ne S)
def toI (l:List Nat):List Int:=List.map (λ(x:Nat)=>(x:Int)) l
theorem A39:(Kn S).length<=S.length:=by
 unfold Kn;have:=List.length_filter_le (ne S) (List.range S.length)
 simpa using this
theorem Vs {x:Nat}:x∈Kn S↔x<S.length/\ne S x=true:=by unfold Kn;rw [List.mem_filter,List.mem_range]
theorem A8f:(Kn S).Pairwise (· < ·):=List.pairwise_lt_range.filter _
def kn (S:S4) (t:Nat):Nat:=(Kn S).getD t 0
theorem W6 {t:Nat} (h:t<(Kn S).length):kn S t∈Kn S/\(Kn S)[t]? = some (kn S t):=by
 unfold kn;rw [List.getD_eq_getElem?_getD,List.getElem?_eq_getElem h];exact ⟨List.getElem_mem h,rfl⟩
theorem B1n {t u:Nat} (h:t<u) (b:u<(Kn S).length):kn S t<kn S u:=by
 have:=List.pairwise_iff_getElem.1 (A8f (S:=S)) t u om b h;unfold kn;rw [List.getD_eq_getElem?_getD,List.getD_eq_getElem?_getD,List.getElem?_eq_getElem (by omega:t<(Kn S).length),List.getElem?_eq_getElem b];exact this
theorem A2u {x:Nat} (h:x<S.length) (hn:ne S x=true):∃t,t<(Kn S).length/\kn S t=x:=by
 obtain ⟨t,b,e⟩:=List.mem_iff_getElem.1 (Vs.2 ⟨h,hn⟩);refine ⟨t,b,?_⟩;unfold kn;rw [List.getD_eq_getElem?_getD,List.getElem?_eq_getElem b,e];rfl
theorem A7v {t u:Nat} (h:t<=u) (b:u<(Kn S).length):kn S t<=kn S u:=by
 by_cases e:t=u
 ·rw [e];exact Nat.le_refl _
 ·exact Nat.le_of_lt (B1n om b)
theorem B3u {t x:Nat} (c:t+1<(Kn S).length) (f:kn S t<x) (g:x<kn S (t+1)):ne S x=false:=by
 cases d:ne S x with
 | false=>rfl
 | true =>
  have hb:=(Vs.1 (W6 c).1).1;obtain ⟨u,e,rfl⟩:=A2u om d
  by_cases b:u<=t
  ·have:=A7v b (by omega:t<(Kn S).length);omega
  ·have:=A7v (by omega:t+1<=u) e;omega
theorem B0b {x:Nat} (h0:0<(Kn S).length) (h:x<kn S 0):ne S x=false:=by
 cases b:ne S x with
 | false=>rfl
 | true =>
  have hb:=(Vs.1 (W6 h0).1).1;obtain ⟨u,c,rfl⟩:=A2u om b;have:=A7v (Nat.zero_le u) c;omega
theorem C0p {x:Nat} (h0:0<(Kn S).length) (b:x<S.length) (h:kn S ((Kn S).length-1)<x):ne S x=false:=by
 cases c:ne S x with
 | false=>rfl
 | true =>
  obtain ⟨u,d,rfl⟩:=A2u b c;have:=A7v (S:=S) (by omega:u<=(Kn S).length-1) om;omega
theorem A6h (e:S.length<=100000):∀(n N i:Nat) (acc:List Int),i+n=S.length->n<N->acc.length<=i ->
  Kw S N acc (i:Int)=some (acc++toI ((List.range' i n).filter (ne S))):=by
 intro n
 induction n with
 | zero =>
  intro N i acc hi c d;obtain ⟨N,rfl⟩:∃N',N=N'+1:=⟨N-1,om⟩;show Kv S (Kw S N) acc (i:Int)=_;unfold Kv;rw [Au (by simp;omega)];simp [Rq,toI]
 | succ n ih =>
  intro N i acc hi c d;obtain ⟨N,rfl⟩:∃N',N=N'+1:=⟨N-1,om⟩;show Kv S (Kw S N) acc (i:Int)=_;unfold Kv Pi;rw [B8 (by simp;omega),B1a om,List.range'_succ]
  by_cases h:ne S i=true
  ·have h':=h;unfold ne at h';rw [B8 (by simpa using h'),R9 (by simp;omega),ckb om,Zm,ih N (i+1) _ om om (by simp;omega),List.filter_cons_of_pos h];simp [toI]
  ·have h':ne S i=false:=by simpa using h
   have b:=h';unfold ne at b;rw [Au (by simpa using b),ckb om,Zm,ih N (i+1) _ om om om,List.filter_cons_of_neg h]
theorem A51 (b:FF<=F) (c:S.length<=100000):Rg F S=some (toI (Kn S)):=by
 unfold FF at b;unfold Rg;have:=A6h (S:=S) c S.length F 0 [] om om sm;refine Eq.trans this ?_;unfold Kn;rw [List.range_eq_range',List.nil_append]
theorem B1b {t:Nat} (h:t<(Kn S).length) (k:Int->Option β):(Av (toI (Kn S)) (t:Int)).bind k=k ((kn S t:Nat):Int):=by
 rw [J3 0 (by simp [toI];omega),Int.toNat_natCast];have:(toI (Kn S)).getD t 0=((kn S t:Nat):Int):=by
  unfold toI;rw [List.getD_eq_getElem?_getD,List.getElem?_map,(W6 h).2];rfl
 rw [this]
end
def gx (l:List zA) (x:Nat):zA:=l.getD x default
theorem B66 (hi:i<l.length) (k:zA->Option β):(Av l (i:Int)).bind k=k (gx l i):=by
 rw [J3 default om,Int.toNat_natCast];rfl
section
variable {S:S4}
end
abbrev Pl:=Nat×Nat
variable {p q:Pl}
abbrev Fam:=Pl->List zA
abbrev Lnk:=Pl->Pl->Int->Prop
variable {R:Lnk}
def Supp (f:Fam) (p q:Pl) (d:Int):Prop:=∀z,mem z (f q)->∃y,mem y (f p)/\y-2*d<=z/\z<=y+2*d
def both (R:Lnk):Lnk:=λp q d=>R p q d\/R q p d
def Stable (R:Lnk) (f:Fam):Prop:=∀p q d,both R p q d->Supp f p q d
def Below (f g:Fam):Prop:=∀p z,mem z (f p)->mem z (g p)
def A7b (f:Fam):Prop:=∀p,Good (f p)
def A5t (f:Fam) (p:Pl) (x:List zA):Fam:=λq=>if q=p then x else f q
theorem Below.refl (f:Fam):Below f f:=λ_ _ h=>h
theorem Below.trans {f g h:Fam} (a:Below f g) (b:Below g h):Below f h:=λp z c=>b p z (a p z c)
section
variable {f g h:Fam}
theorem A55 (c:A7b f) (hd:0<=d):Below (A5t f q (nr (f q) (f p) d)) f:=by
 intro r z b;unfold A5t at b
 split at b
 ·rename_i e;subst e;exact ((Xt (c p).1.2 hd z).1 b).1
 ·exact b
theorem B23 (c:A7b f) (hd:0<=d) (g:Stable R h) (hb:Below h f) (i:both R p q d):Below h (A5t f q (nr (f q) (f p) d)):=by
 intro r z b;unfold A5t
 split
 ·rename_i e
  subst e;refine (Xt (c p).1.2 hd z).2 ⟨hb _ z b,?_⟩;obtain ⟨y,j,k⟩:=g p r d i z b;exact ⟨y,hb _ y j,k⟩
 ·exact hb r z b
theorem B4s (b:A7b f) (hd:0<=d):nr (f q) (f p) d=f q↔Supp f p q d:=by
 constructor
 ·intro e z c;rw [←e] at c;exact ((Xt (b p).1.2 hd z).1 c).2
 ·intro g;refine Yb (A1r _ _ _) (b q).1 λz=>?_;rw [Xt (b p).1.2 hd z];exact ⟨λh=>h.1,λh=>⟨h,g z h⟩⟩
end
instance (z:Int) (s:zA):Decidable (inS z s):=by unfold inS;infer_instance
instance (z:Int) (l:List zA):Decidable (mem z l):=by unfold mem;infer_instance
def HN:Nat:=800001
theorem B5x:HN=800001:=rfl
attribute [irreducible] HN
def vol (l:List zA):Nat:=(List.range HN).countP (λk:Nat=>decide (mem ((k:Int)-400000) l))
theorem A2m {p q:α->Bool}:∀(l:List α),(∀x∈l,p x=true->q x=true)->l.countP p<=l.countP q
 | [],_=>Nat.le_refl _
 | a::l,h=>by
  have ih:=A2m l λx b=>h x (by simp [b]);have c:=h a sm;rw [List.countP_cons,List.countP_cons]
  split
  ·rw [if_pos (c (by assumption))];omega
  ·split<;>omega
theorem A2n {p q:α->Bool}:∀(l:List α),(∀x∈l,p x=true->q x=true)->(∃x∈l,q x=true/\p x=false)->l.countP p<l.countP q
 | [],_,h=>by obtain ⟨x,b,_⟩:=h;cases b
 | a::l,h,he=>by
  have g:=A2m l λx b=>h x (by simp [b]);have e:=h a sm;rw [List.countP_cons,List.countP_cons];obtain ⟨x,b,c,d⟩:=he;rcases List.mem_cons.1 b with rfl|b
  ·rw [c,d];simp;omega
  ·have:=A2n l (λx b=>h x (by simp [b])) ⟨x,b,c,d⟩
   cases f:p a with
   | true=>rw [e f];simp;omega
   | false=>simp;omega
theorem B98 {a:List zA} (d:∀z,mem z a->mem z b) (j:Canon a) (hb:Good b) (c:a≠b):vol a<vol b:=by
 refine A2n _ (λk _ f=>?_) ?_
 ·simp only [decide_eq_true_eq] at f ⊢;exact d _ f
 ·have:∃z,mem z b/\¬mem z a:=by
   apply Classical.byContradiction;intro hn;refine c (Yb j hb.1 λz=>⟨d z,λg=>?_⟩);apply Classical.byContradiction;intro h;exact hn ⟨z,g,h⟩
  obtain ⟨z,i,l⟩:=this;have g:=Ta hb.2 i;have:=B5x;refine ⟨(z+400000).toNat,List.mem_range.2 om,?_,?_⟩
  ·have e:(((z+400000).toNat:Nat):Int)-400000=z:=om
   rw [e];simpa using i
  ·have e:(((z+400000).toNat:Nat):Int)-400000=z:=om
   rw [e];simpa using l
theorem B96 (l:List zA):vol l<=HN:=by
 have:vol l<=(List.range HN).length:=List.countP_le_length ..
 rwa [List.length_range] at this
abbrev Rays:=List S4
variable {S G:Rays}
def gf (G:Rays):Fam:=λp=>gt (G.getD p.1 []) p.2
def sf (G:Rays) (p:Pl) (x:List zA):Rays:=G.set p.1 ((G.getD p.1 []).set p.2 x)
def Shape (G:Rays) (n m:Nat):Prop:=G.length=n/\∀r∈G,r.length=m
def AllG (G:Rays):Prop:=∀r∈G,AllGood r
section
variable {x:List zA}
theorem A4t {l:List α} {d:α} (h:i<l.length):l.getD i d∈l:=by
 rw [List.getD_eq_getElem?_getD,List.getElem?_eq_getElem h];exact List.getElem_mem h
theorem Shape.row (h:Shape G n m) (b:a<n):(G.getD a []).length=m:=h.2 _ (A4t (by rw [h.1];exact b))
theorem AllG.row (h:AllG G) (a:Nat):AllGood (G.getD a []):=by
 by_cases b:a<G.length
 ·exact h _ (A4t b)
 ·rw [List.getD_eq_getElem?_getD,List.getElem?_eq_none om];intro x c;cases c
theorem AllG.good (h:AllG G):A7b (gf G):=λp=>(h.row p.1).gt p.2
theorem AllG.sf (h:AllG G) (c:Good x):AllG (sf G p x):=by
 intro r hr;rcases List.mem_or_eq_of_mem_set hr with b|b
 ·exact h r b
 ·rw [b];exact (h.row p.1).set p.2 c
theorem Shape.sf (h:Shape G n m) (c:p.1<n):Shape (sf G p x) n m:=by
 refine ⟨by unfold Proofs.YtfkeddejdahnhaaGreatDoor.sf;rw [List.length_set];exact h.1,λr hr=>?_⟩;rcases List.mem_or_eq_of_mem_set hr with b|b
 ·exact h.2 r b
 ·rw [b,List.length_set];exact h.row c
theorem B19 {l:List α} {j:Nat} {x d:α} (hi:i<l.length):(l.set i x).getD j d=if i=j then x else l.getD j d:=by
 rw [List.getD_eq_getElem?_getD,List.getD_eq_getElem?_getD,List.getElem?_set]
 by_cases h:i=j
 ·rw [if_pos h,if_pos h,if_pos hi];rfl
 ·rw [if_neg h,if_neg h]
theorem B1d (h:Shape G n m) (d:p.1<n/\p.2<m):gf (sf G p x)=A5t (gf G) p x:=by
 funext q
 unfold gf sf A5t;rw [B19 (by rw [h.1];exact d.1)]
 by_cases b:p.1=q.1
 ·rw [if_pos b,B7f (by rw [h.row d.1];exact d.2)]
  by_cases c:p.2=q.2
  ·rw [if_pos c,if_pos (Prod.ext b.symm c.symm)]
  ·rw [if_neg c,if_neg (λe=>c (by rw [e])),b]
 ·rw [if_neg b,if_neg (λe=>b (by rw [e]))]
def Vol (G:Rays):Nat:=(G.map λr=>(r.map vol).sum).sum
theorem A49 (f:α->Nat) (d:α):∀(l:List α) (i:Nat) (x:α),i<l.length->((l.set i x).map f).sum+f (l.getD i d)=(l.map f).sum+f x
 | [],i,x,h=>by simp at h
 | a::l,0,x,h=>by simp;omega
 | a::l,i+1,x,h=>by
  have:=A49 f d l i x (by simpa using h);simp only [List.set_cons_succ,List.map_cons,List.sum_cons,List.getD_cons_succ];omega
theorem B6q (h:Shape G n m) (b:p.1<n/\p.2<m):Vol (sf G p x)+vol (gf G p)=Vol G+vol x:=by
 have d:=A49 (λr:S4=>(r.map vol).sum) [] G p.1 ((G.getD p.1 []).set p.2 x) (by rw [h.1];exact b.1);have c:=A49 vol [] (G.getD p.1 []) p.2 x (by rw [h.row b.1];exact b.2);have e1:(((G.getD p.1 []).getD p.2 []):List zA)=gf G p:=rfl;rw [e1] at c;unfold Vol sf;omega
theorem B6p (h:Shape G n m):Vol G<=n*(m*HN):=by
 obtain ⟨c,b⟩:=h;subst c;unfold Vol
 induction G with
 | nil=>simp
 | cons r G ih =>
  have hr:∀(l:S4),(l.map vol).sum<=l.length*HN:=by
   intro l
   induction l with
   | nil=>simp
   | cons a l ih=>have:=B96 a;simp only [List.map_cons,List.sum_cons,List.length_cons,Nat.add_mul,Nat.one_mul];omega
  have e:=hr r;rw [b r sm] at e;have ih:=ih λr hr=>b r (by simp [hr]);simp only [List.map_cons,List.sum_cons,List.length_cons,Nat.add_mul,Nat.one_mul];omega
end
section
variable (S:Rays) (br jp:Int)
def LA:Lnk:=λp q d=>p.1=q.1/\p.1<S.length/\lk (S.getD p.1 []) br p.2 q.2/\d=jp*((q.2:Int)-p.2)
def fst (a i k:Nat):Prop:=1<=k/\(k:Int)<=br/\k<S.length/\ne (S.getD ((a+k)%S.length) []) i=true/\∀k',1<=k'->k'<k->ne (S.getD ((a+k')%S.length) []) i=false
def LO:Lnk:=λp q d=>p.1<S.length/\ne (S.getD p.1 []) p.2=true/\p.2=q.2/\∃k,fst S br p.1 p.2 k/\q.1=(p.1+k)%S.length/\d=jp*(k:Int)
def LL:Lnk:=λp q d=>LA S br jp p q d\/LO S br jp p q d
end
theorem A30 {S:S4} (h:ne S i=true):i<S.length:=by
 apply Classical.byContradiction;intro hn;unfold ne gt at h;rw [List.getD_eq_getElem?_getD,List.getElem?_eq_none om] at h;simp at h
section
theorem A0z (c:Shape S n m) (h:LL S br jp p q d):p.1<n/\p.2<m/\q.1<n/\q.2<m/\p≠q:=by
 rcases h with ⟨i,b,f,j⟩|⟨i,b,f,k,j,g,l⟩
 ·rw [c.1] at b;have:=c.row b;have g:=A30 f.2.2.1;have l:=f.2.1;rw [this] at g l;exact ⟨b,g,i▸b,l,λe=>by have:=f.1;rw [e] at this;omega⟩
 ·have o:0<S.length:=om
  have r:=A30 b;rw [c.1] at *;rw [c.row i] at r;refine ⟨i,r,g▸Nat.mod_lt _ o,f▸r,λe=>?_⟩;have u:=j.1;have s:=j.2.2.1;rw [c.1] at s;have e1:p.1=(p.1+k)%n:=by rw [←g,←e]
  by_cases t:p.1+k<n
  ·rw [Nat.mod_eq_of_lt t] at e1;omega
  ·rw [Nat.mod_eq_sub_mod om,Nat.mod_eq_of_lt om] at e1;omega
theorem B9d (j:Shape S n m) (hj:0<=jp/\jp<=400000) (hb:br<=16) (h:LL S br jp p q d):0<=d/\d<=1000000000:=by
 have key:∀c:Int,0<=c->c<=16->0<=jp*c/\jp*c<=1000000000:=by
  intro c h0 e;have e1:=Int.mul_nonneg hj.1 h0;have e2:jp*c<=400000*16:=Int.mul_le_mul hj.2 e h0 om;omega
 rcases h with ⟨e,g,f,b⟩|⟨e,g,f,k,b,l,i⟩
 ·rw [b];have:=f.1;have:=f.2.2.2.2.2;exact key _ om om
 ·rw [i];have:=b.1;have:=b.2.1;exact key _ om om
theorem A8x (b:a<G.length) (k:S4->Option β):(Av G (a:Int)).bind k=k (G.getD a []):=by
 rw [J3 [] om,Int.toNat_natCast]
theorem C0y {b:Nat} (hb:0<b) (k:Int->Option β):(Jr (a:Int) (b:Int)).bind k=k ((a%b:Nat):Int):=by
 unfold Jr;rw [if_neg om];show k _=_
 congr 1
theorem B7y (G:S4) (i:Nat):decide ((((gt G i).length:Nat):Int)>0)=ne G i:=by
 unfold ne;rw [Bool.eq_iff_iff];simp only [decide_eq_true_eq];omega
end
theorem Ns (a b:List zA) (j:a.length=b.length) (hb:a.length<=1000000000):∀(n N i:Nat),i+n=a.length->n<N ->
  Bq a b N (i:Int)=some (decide (a.drop i=b.drop i)):=by
 intro n
 induction n with
 | zero =>
  intro N i hi e;obtain ⟨N,rfl⟩:∃N',N=N'+1:=⟨N-1,om⟩;show Bp a b (Bq a b N) (i:Int)=_;unfold Bp;rw [Au (by simp;omega),List.drop_eq_nil_of_le om,List.drop_eq_nil_of_le om];rfl
 | succ n ih =>
  intro N i hi e;obtain ⟨N,rfl⟩:∃N',N=N'+1:=⟨N-1,om⟩;show Bp a b (Bq a b N) (i:Int)=_;unfold Bp;rw [B8 (by simp;omega),B66 om,B66 om,G7 (i:=i) (l:=a) om default,G7 (i:=i) (l:=b) om default];show (bif (!(((gx a i).Lo==(gx b i).Lo)&&(((gx a i).Hi==(gx b i).Hi)&&true))) then _ else _)=some (decide (gx a i::a.drop (i+1)=gx b i::b.drop (i+1)))
  by_cases he:gx a i=gx b i
  ·rw [he,Au sm,ckb om,Zm,ih N (i+1) om om]
   congr 1
   simp
  ·rw [B8]
   ·congr 1
    simp [he]
   ·apply Classical.byContradiction;intro hn;apply he;simp only [Bool.not_eq_true,Bool.not_eq_false',Bool.and_eq_true,beq_iff_eq,and_true] at hn;obtain ⟨c,d⟩:=hn
    cases f:gx a i;cases g:gx b i
    rw [f,g] at c d;simp only at c d;rw [c,d]
theorem Pe (d:FF<=F) (a b:List zA) (f:a.length<=1000000000):Ce F a b=some (decide (a=b)):=by
 unfold FF at d;unfold Ce
 by_cases c:a.length=b.length
 ·rw [Au (by simp;omega)];exact Ns a b c f a.length F 0 om om
 ·rw [B8 (by simp;omega)]
  congr 1
  have:a≠b:=λe=>c (by rw [e]);simp [this]
section
theorem C11 {x:S4} (b:a<G.length) (k:Rays->Option β):(Ka G (a:Int) x).bind k=k (G.set a x):=by
 unfold Ka;rw [if_pos om,sb,Int.toNat_natCast]
structure Inv (S:Rays) (R:Lnk) (n m:Nat) (G:Rays):Prop where
 shape:Shape G n m
 good:AllG G
 below:Below (gf G) (gf S)
 most:∀h,Stable R h->Below h (gf S)->Below h (gf G)
theorem Inv.step (h:Inv S R n m G) (hd:0<=d) (f:q.1<n/\q.2<m) (j:both R p q d):Inv S R n m (sf G q (nr (gf G q) (gf G p) d))/\(nr (gf G q) (gf G p) d≠gf G q->Vol (sf G q (nr (gf G q) (gf G p) d))<Vol G):=by
 have e:=h.good.good;have c:Good (nr (gf G q) (gf G p) d):=(e q).nr (e p) hd;refine ⟨⟨h.shape.sf f.1,h.good.sf c,?_,λk i hb=>?_⟩,λg=>?_⟩
 ·rw [B1d h.shape f];exact (A55 e hd).trans h.below
 ·rw [B1d h.shape f];exact B23 e hd i (h.most k i hb) j
 ·have o:=B6q (x:=nr (gf G q) (gf G p) d) h.shape f;have r:=B98 (a:=nr (gf G q) (gf G p) d) (b:=gf G q) (λz l=>((Xt (e p).1.2 hd z).1 l).1) c.1 (e q) g;omega
def FS:Nat:=4000000000000
end
section
variable {κ ν:Type} [DecidableEq κ]
theorem A7y (B:List (κ×ν)) (x y:κ) (v:ν):lkM (upM B x v) y=if y=x then some v else lkM B y:=by
 induction B with
 | nil=>unfold upM lkM;split<;>rfl
 | cons p B ih =>
  unfold upM
  by_cases c:x=p.1
  ·rw [if_pos c];unfold lkM
   by_cases b:y=x
   ·simp [b]
   ·simp only [if_neg b];rw [if_neg (by rw [←c];exact b)]
  ·rw [if_neg c];unfold lkM
   by_cases b:y=p.1
   ·rw [if_pos b,if_pos b,if_neg (λe=>c (by rw [←e,b]))]
   ·rw [if_neg b,if_neg b,ih]
def keysNd (B:List (κ×ν)):Prop:=(B.map (·.1)).Nodup
theorem B5r (B:List (κ×ν)) (x:κ) (v:ν):∀k,k∈(upM B x v).map (·.1)↔k∈B.map (·.1)\/k=x:=by
 intro k
 induction B with
 | nil=>simp [upM]
 | cons p B ih =>
  unfold upM
  by_cases b:x=p.1
  ·rw [if_pos b];simp only [List.map_cons,List.mem_cons,b];constructor
   ·rintro (h|h)
    ·exact .inr h
    ·exact .inl (.inr h)
   ·rintro ((h|h)|h)
    ·exact .inl h
    ·exact .inr h
    ·exact .inl h
  ·rw [if_neg b];simp only [List.map_cons,List.mem_cons,ih];constructor
   ·rintro (h|h|h)
    ·exact .inl (.inl h)
    ·exact .inl (.inr h)
    ·exact .inr h
   ·rintro ((h|h)|h)
    ·exact .inl h
    ·exact .inr (.inl h)
    ·exact .inr (.inr h)
theorem C0m {B:List (κ×ν)} (h:keysNd B) (x:κ) (v:ν):keysNd (upM B x v):=by
 induction B with
 | nil=>simp [keysNd,upM]
 | cons p B ih =>
  unfold keysNd at h ⊢;rw [List.map_cons,List.nodup_cons] at h;unfold upM
  by_cases b:x=p.1
  ·rw [if_pos b,List.map_cons,List.nodup_cons];exact ⟨by rw [b];exact h.1,h.2⟩
  ·rw [if_neg b,List.map_cons,List.nodup_cons,B5r];exact ⟨λc=>c.elim h.1 (λe=>b e.symm),ih h.2⟩
theorem B4n {B:List (κ×ν)} {y:κ} (h:y∉B.map (·.1)):lkM B y=none:=by
 induction B with
 | nil=>rfl
 | cons p B ih =>
  simp only [List.map_cons,List.mem_cons,not_or] at h;unfold lkM;rw [if_neg h.1,ih h.2]
theorem B41 (B:List (κ×ν)) (x k:κ) (h:k∈(Ud B x).map (·.1)):k∈B.map (·.1):=by
 induction B with
 | nil=>exact h
 | cons p B ih =>
  unfold Ud at h
  by_cases b:x=p.1
  ·rw [if_pos b] at h;simp [h]
  ·rw [if_neg b,List.map_cons,List.mem_cons] at h;rw [List.map_cons,List.mem_cons];exact h.imp id ih
theorem B7b {B:List (κ×ν)} (h:keysNd B) (x:κ):keysNd (Ud B x):=by
 induction B with
 | nil=>exact h
 | cons p B ih =>
  unfold keysNd at h ⊢;rw [List.map_cons,List.nodup_cons] at h;unfold Ud
  by_cases b:x=p.1
  ·rw [if_pos b];exact h.2
  ·rw [if_neg b,List.map_cons,List.nodup_cons];exact ⟨λc=>h.1 (B41 B x _ c),ih h.2⟩
theorem B7p {B:List (κ×ν)} (h:keysNd B) (x y:κ):lkM (Ud B x) y=if y=x then none else lkM B y:=by
 induction B with
 | nil=>unfold Ud lkM;split<;>rfl
 | cons p B ih =>
  have h':=h;unfold keysNd at h;rw [List.map_cons,List.nodup_cons] at h;unfold Ud
  by_cases c:x=p.1
  ·rw [if_pos c]
   by_cases b:y=x
   ·rw [if_pos b];exact B4n (by rw [b,c];exact h.1)
   ·rw [if_neg b]
    conv=>rhs;unfold lkM
    rw [if_neg (by rw [←c];exact b)]
  ·rw [if_neg c]
   conv=>lhs;unfold lkM
   by_cases b:y=p.1
   ·rw [if_pos b,if_neg (λe=>c (by rw [←e,b]))];unfold lkM;rw [if_pos b]
   ·rw [if_neg b,ih h.2]
    conv=>rhs;unfold lkM
    rw [if_neg b]
end
abbrev Bonds:=List (zE×List zL)
def pl (p:Pl):zE:=⟨(p.1:Int),(p.2:Int)⟩
theorem Wc (h:pl p=pl q):p=q:=by
 unfold pl at h;simp only [zE.mk.injEq] at h;exact Prod.ext om om
def Bd (B:Bonds) (r:zE):List zL:=(lkM B r).getD []
theorem B4m (F:Nat) (W:Rays) (B:Bonds) {p q:zE} (f:p≠q) (d:Int) (g:(Bd B p).length<=100000000) (i:(Bd B q).length<=100000000) :
  ∃B',Fi F ⟨W,B⟩ p q d=some ⟨W,B'⟩/\∀r,Bd B' r=if r=p then Bd B p++[⟨q,d⟩] else if r=q then Bd B q++[⟨p,d⟩] else Bd B r:=by
 unfold Fi;unfold Bd at g i;have e:lkM (upM B p ((lkM B p).getD []++[(⟨q,d⟩:zL)])) q=lkM B q:=by rw [A7y,if_neg (λe=>f e.symm)]
 show ∃B',((apd 24 ((lkM B p).getD []) [(⟨q,d⟩:zL)]).bind λl23=>(apd 24 ((lkM (upM B p l23) q).getD []) [(⟨p,d⟩:zL)]).bind λl67=>some (⟨W,upM (upM B p l23) q l67⟩:zS))=some ⟨W,B'⟩/\_;rw [R9 (by simp;omega),e,R9 (by simp;omega)];refine ⟨_,rfl,λr=>?_⟩;unfold Bd;rw [A7y,A7y]
 by_cases b:r=q
 ·rw [if_pos b,if_neg (λe=>f (by rw [←e,b])),if_pos b];rfl
 ·rw [if_neg b]
  by_cases c:r=p
  ·rw [if_pos c,if_pos c];rfl
  ·rw [if_neg c,if_neg c,if_neg b]
structure WI (P:Lnk) (B:Bonds) (c:Nat):Prop where
 len:∀r,(Bd B r).length<=c
 iff:∀(p q:Pl) d,(⟨pl q,d⟩:zL)∈Bd B (pl p)↔both P p q d
 form:∀r b,b∈Bd B r->∃p q:Pl,r=pl p/\b.to=pl q
def B3s (P:Lnk) (p q:Pl) (d:Int):Lnk:=λa b e=>P a b e\/(a=p/\b=q/\e=d)
theorem WI.link {P:Lnk} {B:Bonds} {c:Nat} (h:WI P B c) (j:c<=100000000) (F:Nat) (W:Rays) (i:p≠q) (d:Int):∃B',Fi F ⟨W,B⟩ (pl p) (pl q) d=some ⟨W,B'⟩/\WI (B3s P p q d) B' (c+1):=by
 have k:=h.len (pl p);have l:=h.len (pl q);obtain ⟨B',b1,b2⟩:=B4m F W B (λe=>i (Wc e)) d om om;refine ⟨B',b1,λr=>?_,λa b e=>?_,λr b hb=>?_⟩
 ·have m:=h.len r;rw [b2]
  split
  ·simp;omega
  ·split
   ·simp;omega
   ·omega
 ·rw [b2];have hi:=h.iff a b e;unfold both B3s at *
  by_cases f:a=p
  ·subst f;rw [if_pos rfl,List.mem_append,List.mem_singleton,hi];have hn:¬(a=q):=i;constructor
   ·rintro ((h|h)|h)
    ·exact .inl (.inl h)
    ·exact .inr (.inl h)
    ·simp only [zL.mk.injEq] at h;exact .inl (.inr ⟨rfl,Wc h.1,h.2⟩)
   ·rintro ((h|⟨_,rfl,rfl⟩)|(h|⟨_,h,_⟩))
    ·exact .inl (.inl h)
    ·exact .inr rfl
    ·exact .inl (.inr h)
    ·exact absurd h hn
  ·rw [if_neg (λe=>f (Wc e))]
   by_cases g:a=q
   ·subst g;rw [if_pos rfl,List.mem_append,List.mem_singleton,hi];constructor
    ·rintro ((h|h)|h)
     ·exact .inl (.inl h)
     ·exact .inr (.inl h)
     ·simp only [zL.mk.injEq] at h;exact .inr (.inr ⟨Wc h.1,rfl,h.2⟩)
    ·rintro ((h|⟨h,_⟩)|(h|⟨rfl,_,rfl⟩))
     ·exact .inl (.inl h)
     ·exact absurd h f
     ·exact .inl (.inr h)
     ·exact .inr rfl
   ·rw [if_neg (λe=>g (Wc e)),hi];constructor
    ·rintro (h|h)
     ·exact .inl (.inl h)
     ·exact .inr (.inl h)
    ·rintro ((h|⟨h,_⟩)|(h|⟨_,h,_⟩))
     ·exact .inl h
     ·exact absurd h f
     ·exact .inr h
     ·exact absurd h g
 ·rw [b2] at hb
  split at hb
  ·rename_i e
   rcases List.mem_append.1 hb with hb|hb
   ·obtain ⟨a,b',e1,e2⟩:=h.form _ _ hb;exact ⟨p,b',e,e2⟩
   ·simp at hb;subst hb;exact ⟨p,q,e,rfl⟩
  ·split at hb
   ·rename_i e
    rcases List.mem_append.1 hb with hb|hb
    ·obtain ⟨a,b',e1,e2⟩:=h.form _ _ hb;exact ⟨q,b',e,e2⟩
    ·simp at hb;subst hb;exact ⟨q,p,e,rfl⟩
   ·exact h.form r b hb
theorem WI.same {P Q:Lnk} {B:Bonds} {c c':Nat} (h:WI P B c) (e:c<=c') (b:∀p q d,P p q d↔Q p q d):WI Q B c' :=
 ⟨λr=>Nat.le_trans (h.len r) e,λp q d=>by rw [h.iff];unfold both;rw [b,b],h.form⟩
section
theorem A78 (e:Shape S n m) (hn:n<=1000) (hm:m<=1000) (hj:0<=jp/\jp<=400000) (hb:br<=16) (ha:a<n) (hi:i<m) (hk:ne (S.getD a []) i=true) (k5:Rays->Bonds->Int->Option zS) (t0:Int) (W:Rays) {P:Lnk} {B:Bonds} {c:Nat} (s:WI P B c) (hc:c<=10000000) :
  ∀(t N k:Nat),k+t=n->1<=k->t<N->(∀k',1<=k'->k'<k->ne (S.getD ((a+k')%n) []) i=false) ->
  ∃B',Jn F S jp br (a:Int) t0 k5 (i:Int) W B N (k:Int)=L4 t0 k5 W B'/\WI (λp q d=>P p q d\/(p=(a,i)/\LO S br jp p q d)) B' (c+1):=by
 have f:∀k:Nat,((k:Int)>br\/k>=n)->(∀k',1<=k'->k'<k->ne (S.getD ((a+k')%n) []) i=false)->∀p q d,¬(p=(a,i)/\LO S br jp p q d):=by
  rintro k b8 b p q d ⟨rfl,o,h2,h3,k2,h4,h5,h6⟩;obtain ⟨g1,g2,g3,g4,g5⟩:=h4;rw [e.1] at g3 g4;have:k2<k:=om
  rw [b k2 g1 this] at g4
  cases g4
 intro t
 induction t with
 | zero =>
  intro N k u o hN b;obtain ⟨N,rfl⟩:∃N',N=N'+1:=⟨N-1,om⟩;refine ⟨B,?_,s.same om λp q d=>⟨.inl,λh=>h.elim id λh=>absurd h (f k (.inr om) b p q d)⟩⟩;show Kz F S jp br (a:Int) t0 k5 (i:Int) W B (Jn F S jp br (a:Int) t0 k5 (i:Int) W B N) (k:Int)=_;unfold Kz;rw [e.1,ckb om,Au (by simp only [decide_eq_false_iff_not];split<;>omega)]
 | succ t ih =>
  intro N k u o hN b;obtain ⟨N,rfl⟩:∃N',N=N'+1:=⟨N-1,om⟩;have s1:Jn F S jp br (a:Int) t0 k5 (i:Int) W B (N+1) (k:Int)=Kz F S jp br (a:Int) t0 k5 (i:Int) W B (Jn F S jp br (a:Int) t0 k5 (i:Int) W B N) (k:Int):=rfl;rw [s1];unfold Kz;rw [e.1,ckb om]
  by_cases v:(k:Int)<=br
  ·rw [B8 (by simp only [decide_eq_true_eq];split<;>omega)];have x:a<S.length:=by rw [e.1];exact ha
   have l:(a+k)%n<n:=Nat.mod_lt _ om;have z:(a+k)%n<S.length:=by rw [e.1];exact l
   have j:=e.row l;have c1:0<=jp*(k:Int)/\jp*(k:Int)<=1000000000:=by
    have e1:=Int.mul_nonneg hj.1 (Int.natCast_nonneg k);have e2:jp*(k:Int)<=400000*16:=Int.mul_le_mul hj.2 om om om;omega
   have e3:((a:Int)+(k:Int))=((a+k:Nat):Int):=om
   rw [e3,ckb om,C0y om,A8x z,B1a (by rw [j];exact hi),B7y]
   cases r:ne (S.getD ((a+k)%n) []) i with
   | true =>
    have hl:LO S br jp (a,i) ((a+k)%n,i) (jp*(k:Int)):=⟨x,hk,rfl,k,⟨o,v,by rw [e.1];omega,by rw [e.1];exact r,by rw [e.1];exact b⟩,by rw [e.1],rfl⟩;have b0:=(A0z (br:=br) (jp:=jp) e (.inr hl)).2.2.2.2;obtain ⟨B',b1,b2⟩:=s.link om F W b0 (jp*(k:Int));refine ⟨B',?_,b2.same (Nat.le_refl _) λp q d=>?_⟩
    ·rw [B8 rfl,ckb om];show ((Fi F ⟨W,B⟩ (pl (a,i)) (pl ((a+k)%n,i)) (jp*(k:Int))).bind λy=>L4 t0 k5 y.sets y.bonds)=_;rw [b1,sb]
    ·unfold B3s;constructor
     ·rintro (h|⟨rfl,rfl,rfl⟩)
      ·exact .inl h
      ·exact .inr ⟨rfl,hl⟩
     ·rintro (h|⟨rfl,g1,g2,g3,k2,g4,g5,g6⟩)
      ·exact .inl h
      ·have b3:k2=k:=by
        obtain ⟨f1,f2,f3,f4,f5⟩:=g4;rw [e.1] at f3 f4 f5;rcases Nat.lt_trichotomy k2 k with g|g|g
        ·have:=b k2 f1 g;rw [this] at f4;cases f4
        ·exact g
        ·have:=f5 k o g;rw [this] at r;cases r
       subst b3;refine .inr ⟨rfl,?_,g6⟩;rw [e.1] at g5;exact Prod.ext g5 g3.symm
   | false =>
    rw [Au rfl,ckb om,Zm];exact ih N (k+1) om om om (λk' q1 q2=>by
     by_cases b4:k'=k
     ·subst b4;exact r
     ·exact b k' q1 om)
  ·rw [Au (by simp only [decide_eq_false_iff_not];split<;>omega)];exact ⟨B,rfl,s.same om λp q d=>⟨.inl,λh=>h.elim id λh=>absurd h (f k (.inl om) b p q d)⟩⟩
theorem C00 {T:S4} {u:Nat} (h0:0<u) (f:u<(Kn T).length) {x y:Nat}:(lk T br x y/\y=kn T u)↔(x=kn T (u-1)/\y=kn T u/\((kn T u:Nat):Int)-(kn T (u-1):Nat)<=br):=by
 have c:=Vs.1 (W6 f).1;have b:=Vs.1 (W6 (S:=T) (t:=u-1) om).1;have d:=B1n (S:=T) (t:=u-1) (u:=u) om f;have e:∀x,kn T (u-1)<x->x<kn T u->ne T x=false:=λx g i=>B3u (S:=T) (t:=u-1) om g (by rw [show u-1+1=u by omega];exact i);constructor
 ·rintro ⟨⟨g1,g2,g3,g4,g5,g6⟩,rfl⟩;have j:x=kn T (u-1):=by
   rcases Nat.lt_trichotomy x (kn T (u-1)) with h|h|h
   ·have:=g5 _ h d;rw [this] at b;exact absurd b.2 sm
   ·exact h
   ·have:=e x h g1;rw [this] at g3;cases g3
  subst j;exact ⟨rfl,rfl,g6⟩
 ·rintro ⟨rfl,rfl,k⟩;exact ⟨⟨d,c.1,b.2,c.2,e,k⟩,rfl⟩
def QW (S:Rays) (br jp:Int) (a t:Nat):Lnk:=λp q d=>p.1=a/\((LA S br jp p q d/\∃u,t<=u/\u<(Kn (S.getD a [])).length/\q.2=kn (S.getD a []) u)\/(LO S br jp p q d/\∃u,t<=u/\u<(Kn (S.getD a [])).length/\p.2=kn (S.getD a []) u))
theorem B5v (hF:FF<=F) (hS:Shape S n m) (hn:n<=1000) (hm:m<=1000) (hj:0<=jp/\jp<=400000) (hb:br<=16) (ha:a<n) (k2:Rays->Bonds->Int->Option zS) (W:Rays) :
  ∀(s N t:Nat) (P:Lnk) (B:Bonds) (c:Nat),t+s=(Kn (S.getD a [])).length->s<N->WI P B c->c+2*s<=10000000 ->
  ∃B',Fb F S jp br (a:Int) k2 (S.getD a []) (toI (Kn (S.getD a []))) N W B (t:Int)=Jm F (a:Int) k2 (S.getD a []) W B'/\WI (λp q d=>P p q d\/QW S br jp a t p q d) B' (c+2*s):=by
 have b5:a<S.length:=by rw [hS.1];exact ha
 have j:=hS.row ha;have c8:=A39 (S:=S.getD a []);have r:(toI (Kn (S.getD a []))).length=(Kn (S.getD a [])).length:=by unfold toI;rw [List.length_map]
 have b6:=hF;unfold FF at b6;intro s
 induction s with
 | zero =>
  intro N t P B c b7 hN v hc;obtain ⟨N,rfl⟩:∃N',N=N'+1:=⟨N-1,om⟩;refine ⟨B,?_,v.same om λp q d=>⟨.inl,λh=>h.elim id λh=>?_⟩⟩
  ·show Ky F S jp br (a:Int) k2 (S.getD a []) (toI (Kn (S.getD a []))) (Fb F S jp br (a:Int) k2 (S.getD a []) (toI (Kn (S.getD a []))) N) W B (t:Int)=_;unfold Ky;rw [r,Au (by simp only [decide_eq_false_iff_not];omega)]
  ·obtain ⟨_,⟨_,u,u1,u2,_⟩|⟨_,u,u1,u2,_⟩⟩:=h<;>omega
 | succ s ih =>
  intro N t P B c b7 hN v hc;obtain ⟨N,rfl⟩:∃N',N=N'+1:=⟨N-1,om⟩;have s1:Fb F S jp br (a:Int) k2 (S.getD a []) (toI (Kn (S.getD a []))) (N+1) W B (t:Int)=Ky F S jp br (a:Int) k2 (S.getD a []) (toI (Kn (S.getD a []))) (Fb F S jp br (a:Int) k2 (S.getD a []) (toI (Kn (S.getD a []))) N) W B (t:Int):=rfl;rw [s1];have g:t<(Kn (S.getD a [])).length:=om
  have k:=Vs.1 (W6 g).1;rw [j] at k;have fin:∀(P1:Lnk) (B1:Bonds),WI P1 B1 (c+1)->(∀p q d,P1 p q d↔P p q d\/(p.1=a/\LA S br jp p q d/\q.2=kn (S.getD a []) t)) ->
    ∃B',Ms F S jp br (a:Int) (t:Int) (Fb F S jp br (a:Int) k2 (S.getD a []) (toI (Kn (S.getD a []))) N) ((kn (S.getD a []) t:Nat):Int) W B1=Jm F (a:Int) k2 (S.getD a []) W B'/\WI (λp q d=>P p q d\/QW S br jp a t p q d) B' (c+2*(s+1)):=by
   intro P1 B1 b8 b9;unfold Ms;obtain ⟨B2,b1,b2⟩:=A78 (F:=F) hS hn hm hj hb ha k.1 k.2 (Fb F S jp br (a:Int) k2 (S.getD a []) (toI (Kn (S.getD a []))) N) (t:Int) W b8 om (n-1) F 1 om om om (λk' f b=>by omega);rw [show ((1:Nat):Int)=1 from rfl] at b1;rw [b1];unfold L4;rw [ckb om,Zm];obtain ⟨B3,c1,c2⟩:=ih N (t+1) _ B2 (c+1+1) om om b2 om;refine ⟨B3,c1,c2.same om λp q d=>?_⟩;rw [b9];constructor
   ·rintro (((h|⟨f,b,i⟩)|⟨rfl,b⟩)|⟨f,⟨b,u,u1,u2,u3⟩|⟨b,u,u1,u2,u3⟩⟩)
    ·exact .inl h
    ·exact .inr ⟨f,.inl ⟨b,t,Nat.le_refl _,g,i⟩⟩
    ·exact .inr ⟨rfl,.inr ⟨b,t,Nat.le_refl _,g,rfl⟩⟩
    ·exact .inr ⟨f,.inl ⟨b,u,om,u2,u3⟩⟩
    ·exact .inr ⟨f,.inr ⟨b,u,om,u2,u3⟩⟩
   ·rintro (h|⟨f,⟨b,u,u1,u2,u3⟩|⟨b,u,u1,u2,u3⟩⟩)
    ·exact .inl (.inl (.inl h))
    ·by_cases l:u=t
     ·subst l;exact .inl (.inl (.inr ⟨f,b,u3⟩))
     ·exact .inr ⟨f,.inl ⟨b,u,om,u2,u3⟩⟩
    ·by_cases l:u=t
     ·subst l;exact .inl (.inr ⟨Prod.ext f u3,b⟩)
     ·exact .inr ⟨f,.inr ⟨b,u,om,u2,u3⟩⟩
  unfold Ky;rw [r,B8 (by simp only [decide_eq_true_eq];omega),B1b g]
  by_cases c0:t=0
  ·subst c0;have eg:((decide (((0:Nat):Int)>0))==true&&true)=false:=by simp
   rw [gdF eg,sb,gdF eg,sb,gdF eg,sb];rw [Au sm];refine fin P B (v.same om λ_ _ _=>Iff.rfl) λp q d=>⟨.inl,λh=>h.elim id ?_⟩;rintro ⟨rfl,⟨f,b,i,h4⟩,h5⟩;exfalso;have:=B0b (S:=S.getD p.1 []) om (by rw [←h5];exact i.1);have h6:=i.2.2.1;rw [this] at h6;cases h6
  ·have eg:((decide ((t:Int)>0))==true&&true)=true:=by simp;omega
   have e1:((t:Int)-1)=((t-1:Nat):Int):=om
   have c4:=Vs.1 (W6 (S:=S.getD a []) (t:=t-1) om).1;rw [j] at c4;have d1:=B1n (S:=S.getD a []) (t:=t-1) (u:=t) om g;rw [gdT eg,ckb om,e1,gdT eg,B1b om,gdT eg,ckb om];have e2:decide ((t:Int)>0)=true:=by simp;omega
   rw [e2];have o:=λ{x y:Nat}=>C00 (br:=br) (T:=S.getD a []) (u:=t) om g (x:=x) (y:=y)
   by_cases hd:((kn (S.getD a []) t:Nat):Int)-((kn (S.getD a []) (t-1):Nat):Int)<=br
   ·have e3:(bif true then (decide (((kn (S.getD a []) t:Nat):Int)-((kn (S.getD a []) (t-1):Nat):Int)<=br)) else false)=true:=by rw [cond_true];simpa using hd
    rw [e3];refine (congrArg (λz=>∃B',z=Jm F (a:Int) k2 (S.getD a []) W B'/\WI (λp q d=>P p q d\/QW S br jp a t p q d) B' (c+2*(s+1))) (B8 rfl)).mpr ?_;have d2:0<=jp*(((kn (S.getD a []) t:Nat):Int)-((kn (S.getD a []) (t-1):Nat):Int))/\jp*(((kn (S.getD a []) t:Nat):Int)-((kn (S.getD a []) (t-1):Nat):Int))<=1000000000:=by
     have q1:=Int.mul_nonneg hj.1 (show (0:Int)<=((kn (S.getD a []) t:Nat):Int)-((kn (S.getD a []) (t-1):Nat):Int) by omega);have q2:jp*(((kn (S.getD a []) t:Nat):Int)-((kn (S.getD a []) (t-1):Nat):Int))<=400000*16:=Int.mul_le_mul hj.2 om om om;omega
    have c5:((a,kn (S.getD a []) (t-1)):Pl)≠(a,kn (S.getD a []) t):=λe=>by simp only [Prod.mk.injEq] at e;omega
    obtain ⟨B1,b1,b2⟩:=v.link om F W c5 (jp*(((kn (S.getD a []) t:Nat):Int)-((kn (S.getD a []) (t-1):Nat):Int)));rw [ckb om,B1b om,ckb om,B1b om,ckb om,ckb om];have b1':Fi F { sets:=W,bonds:=B } { ray:=(a:Int),gate:=((kn (S.getD a []) (t-1):Nat):Int) } { ray:=(a:Int),gate:=((kn (S.getD a []) t:Nat):Int) } (jp*(((kn (S.getD a []) t:Nat):Int)-((kn (S.getD a []) (t-1):Nat):Int)))=some ⟨W,B1⟩:=b1;rw [b1',sb];refine fin _ B1 b2 λp q d=>?_;unfold B3s;constructor
    ·rintro (h|⟨rfl,rfl,rfl⟩)
     ·exact .inl h
     ·exact .inr ⟨rfl,⟨rfl,b5,(o.2 ⟨rfl,rfl,hd⟩).1,rfl⟩,rfl⟩
    ·rintro (h|⟨h0,⟨f,b,i,h4⟩,h5⟩)
     ·exact .inl h
     ·rw [h0] at i;obtain ⟨g1,g2,g3⟩:=o.1 ⟨i,h5⟩;refine .inr ⟨Prod.ext h0 g1,Prod.ext (f▸h0) g2,?_⟩;rw [h4,g1,g2]
   ·have e3:(bif true then (decide (((kn (S.getD a []) t:Nat):Int)-((kn (S.getD a []) (t-1):Nat):Int)<=br)) else false)=false:=by rw [cond_true];simpa using hd
    rw [e3];refine (congrArg (λz=>∃B',z=Jm F (a:Int) k2 (S.getD a []) W B'/\WI (λp q d=>P p q d\/QW S br jp a t p q d) B' (c+2*(s+1))) (Au rfl)).mpr ?_;refine fin P B (v.same om λ_ _ _=>Iff.rfl) λp q d=>⟨.inl,λh=>h.elim id ?_⟩;rintro ⟨h0,⟨f,b,i,h4⟩,h5⟩;rw [h0] at i;exact absurd (o.1 ⟨i,h5⟩).2.2 hd
theorem B6m (g:Shape S n m) (p q:Pl) (d:Int):QW S br jp a 0 p q d↔p.1=a/\LL S br jp p q d:=by
 unfold QW LL;constructor
 ·rintro ⟨h,⟨b,_⟩|⟨b,_⟩⟩
  ·exact ⟨h,.inl b⟩
  ·exact ⟨h,.inr b⟩
 ·rintro ⟨rfl,h|h⟩
  ·obtain ⟨b,c,e,f⟩:=h;obtain ⟨u,u1,u2⟩:=A2u (S:=S.getD p.1 []) e.2.1 e.2.2.2.1;exact ⟨rfl,.inl ⟨⟨b,c,e,f⟩,u,Nat.zero_le _,u1,u2.symm⟩⟩
  ·have c:=h.2.1;obtain ⟨u,u1,u2⟩:=A2u (S:=S.getD p.1 []) (A30 c) c;exact ⟨rfl,.inr ⟨h,u,Nat.zero_le _,u1,u2.symm⟩⟩
theorem B5u (j:FF<=F) (b:Shape S n m) (hn:n<=1000) (hm:m<=1000) (hj:0<=jp/\jp<=400000) (hb:br<=16) :
  ∀(t N a:Nat) (P:Lnk) (B:Bonds) (c:Nat),a+t=n->t<N->WI P B c->c+t*(2*m)<=9000000 ->
  ∃B',Gx F S jp br N (S.take a) B (a:Int)=some ⟨S,B'⟩/\WI (λp q d=>P p q d\/(a<=p.1/\LL S br jp p q d)) B' (c+t*(2*m)):=by
 have k:=j;unfold FF at k;intro t
 induction t with
 | zero =>
  intro N a P B c l v o s;obtain ⟨N,rfl⟩:∃N',N=N'+1:=⟨N-1,om⟩;refine ⟨B,?_,o.same om λp q d=>⟨.inl,λh=>h.elim id λh=>?_⟩⟩
  ·show Kx F S jp br (Gx F S jp br N) (S.take a) B (a:Int)=_;unfold Kx;rw [b.1,Au (by simp;omega),List.take_of_length_le (by rw [b.1];omega)];rfl
  ·have:=A0z b h.2;omega
 | succ t ih =>
  intro N a P B c l v o s;obtain ⟨N,rfl⟩:∃N',N=N'+1:=⟨N-1,om⟩;have s1:Gx F S jp br (N+1) (S.take a) B (a:Int)=Kx F S jp br (Gx F S jp br N) (S.take a) B (a:Int):=rfl;rw [s1];have i:a<S.length:=by rw [b.1];omega
  have f:=b.row (a:=a) om;have x:=A39 (S:=S.getD a []);rw [Nat.add_mul] at s;unfold Kx;rw [b.1,B8 (by simp;omega),A8x i,A51 j (by rw [f];omega),sb];obtain ⟨B1,b1,b2⟩:=B5v j b hn hm hj hb (a:=a) om (Gx F S jp br N) (S.take a) (Kn (S.getD a [])).length F 0 P B c om om o om;rw [show ((0:Nat):Int)=0 from rfl] at b1;rw [b1];unfold Jm Cj Rr;have y:(S.take a).length=a:=by rw [List.length_take];omega
  rw [R9 (by rw [f];simp;omega),sb,List.nil_append,R9 (by rw [y];simp;omega),ckb om,Zm];have e:S.take a++[S.getD a []]=S.take (a+1):=by
   rw [List.take_add_one]
   congr 1
   rw [List.getD_eq_getElem?_getD,List.getElem?_eq_getElem i];rfl
  rw [e];obtain ⟨B2,c1,c2⟩:=ih N (a+1) _ B1 (c+2*m) om om (b2.same om λ_ _ _=>Iff.rfl) om;refine ⟨B2,c1,c2.same (by rw [Nat.add_mul];omega) λp q d=>?_⟩;rw [B6m b];constructor
  ·rintro ((h|⟨u,g⟩)|⟨u,g⟩)
   ·exact .inl h
   ·exact .inr ⟨om,g⟩
   ·exact .inr ⟨om,g⟩
  ·rintro (h|⟨u,g⟩)
   ·exact .inl (.inl h)
   ·by_cases r:p.1=a
    ·exact .inl (.inr ⟨r,g⟩)
    ·exact .inr ⟨om,g⟩
theorem B3l (e:FF<=F) (f:Shape S n m) (hn:n<=1000) (hm:m<=1000) (hj:0<=jp/\jp<=400000) (hb:br<=16) :
  ∃B,Ux F S jp br=some ⟨S,B⟩/\WI (LL S br jp) B 9000000:=by
 have c:=e;unfold FF at c;have g:n*(2*m)<=1000*(2*1000):=Nat.mul_le_mul hn om;obtain ⟨B,b1,b2⟩:=B5u e f hn hm hj hb n F 0 (λ_ _ _=>False) [] 0 om om ⟨λr=>by simp [Bd,lkM],λp q d=>by simp [Bd,lkM,both],λr b hb=>by simp [Bd,lkM] at hb⟩ om;refine ⟨B,b1,b2.same om λp q d=>⟨λh=>h.elim False.elim λh=>h.2,λh=>.inr ⟨Nat.zero_le _,h⟩⟩⟩
end
theorem nb:(none:Option α).bind f=none:=rfl
abbrev Waits:=List (zE×Bool)
structure TI (B:Waits) (todo:List zE):Prop where
 nd:keysNd B
 inl:∀r,(lkM B r).getD false=true->r∈todo
theorem A8e (F:Nat) (r:zE) {B:Waits} {todo:List zE} (h:TI B todo) (c:todo.length<=8000000000000):∃B' todo',Fa F r B todo=some (B',todo')/\TI B' todo'/\r∈todo'/\(∀x,x∈todo->x∈todo')/\(∀x,x∈todo'->x∈todo\/x=r)/\todo'.length<=todo.length+1:=by
 unfold Fa
 cases hb:(lkM B r).getD false with
 | true =>
  refine ⟨B,todo,Au rfl,h,h.inl r hb,λ_ h=>h,λ_ h=>.inl h,om⟩
 | false =>
  refine ⟨upM B r true,todo++[r],?_,⟨C0m h.nd r true,λx b=>?_⟩,sm,λx b=>by simp [b],λx b=>by simpa using b,sm⟩
  ·refine (B8 rfl).trans ?_;rw [R9 (by simp;omega)]
  ·rw [A7y] at b
   split at b
   ·rename_i e;simp [e]
   ·simp [h.inl x b]
section
theorem A4f (m:FF<=F) {T:S4} (n:T.length<=1000) (k6:List zE->Waits->Int->Option Rays) (x:Int):∀(s N t:Nat) (B:Waits) (todo:List zE),t+s=(Kn T).length->s<N->TI B todo->todo.length+s<=2000000 ->
  ∃B' todo',Fg F (a:Int) k6 (toI (Kn T)) N todo B (t:Int)=Nl (a:Int) k6 todo' B'/\TI B' todo'/\(∀x,x∈todo->x∈todo')/\(∀u,t<=u->u<(Kn T).length->pl (a,kn T u)∈todo')/\(∀x,x∈todo'->x∈todo\/∃u,u<(Kn T).length/\x=pl (a,kn T u))/\todo'.length<=todo.length+s:=by
 have b:(toI (Kn T)).length=(Kn T).length:=by unfold toI;rw [List.length_map]
 have i:=A39 (S:=T);intro s
 induction s with
 | zero =>
  intro N t B todo c j d k;obtain ⟨N,rfl⟩:∃N',N=N'+1:=⟨N-1,om⟩;refine ⟨B,todo,?_,d,λ_ h=>h,λu l g=>by omega,λ_ h=>.inl h,om⟩;show K2 F (a:Int) k6 (toI (Kn T)) (Fg F (a:Int) k6 (toI (Kn T)) N) todo B (t:Int)=_;unfold K2;rw [b,Au (by simp;omega)]
 | succ s ih =>
  intro N t B todo c j d k;obtain ⟨N,rfl⟩:∃N',N=N'+1:=⟨N-1,om⟩;have s1:Fg F (a:Int) k6 (toI (Kn T)) (N+1) todo B (t:Int)=K2 F (a:Int) k6 (toI (Kn T)) (Fg F (a:Int) k6 (toI (Kn T)) N) todo B (t:Int):=rfl;rw [s1];obtain ⟨B1,t1,w1,w2,w3,w4,w5,w6⟩:=A8e F (pl (a,kn T t)) d om;obtain ⟨B2,t2,g1,g2,g3,g4,g5,g6⟩:=ih N (t+1) B1 t1 om om w2 om;refine ⟨B2,t2,?_,g2,λx e=>g3 x (w4 x e),λu l g=>?_,λx e=>?_,om⟩
  ·rw [←g1];unfold K2;rw [b,B8 (by simp;omega),B1b om];show ((Fa F (pl (a,kn T t)) B todo).bind λy=>(ck ((t:Int)+1)).bind λz=>Fg F (a:Int) k6 (toI (Kn T)) N y.2 y.1 z)=_;rw [w1,sb,ckb om,Zm]
  ·by_cases f:u=t
   ·subst f;exact g3 _ w3
   ·exact g4 u om g
  ·rcases g5 x e with h|h
   ·rcases w5 x h with h|h
    ·exact .inl h
    ·exact .inr ⟨t,om,h⟩
   ·exact .inr h
theorem A8l (k:FF<=F) (i:Shape S n m) (hn:n<=1000) (hm:m<=1000) (y5:zS):∀(t N a:Nat) (B:Waits) (todo:List zE),a+t=n->t<N->TI B todo->todo.length+t*m<=2000000->(∀x,x∈todo->∃p:Pl,x=pl p/\p.1<n/\p.2<m) ->
  (∀p:Pl,p.1<a->ne (S.getD p.1 []) p.2=true->pl p∈todo) ->
  ∃B' todo',Ff F S y5 N todo B (a:Int)=Nk F y5 todo' B'/\TI B' todo'/\(∀x,x∈todo'->∃p:Pl,x=pl p/\p.1<n/\p.2<m)/\(∀p:Pl,p.1<n->ne (S.getD p.1 []) p.2=true->pl p∈todo')/\todo'.length<=todo.length+t*m:=by
 have l:=k;unfold FF at l;intro t
 induction t with
 | zero =>
  intro N a B todo o y q v e c;obtain ⟨N,rfl⟩:∃N',N=N'+1:=⟨N-1,om⟩;refine ⟨B,todo,?_,q,e,λp j f=>c p om f,om⟩;show K1 F S y5 (Ff F S y5 N) todo B (a:Int)=_;unfold K1;rw [i.1,Au (by simp;omega)]
 | succ t ih =>
  intro N a B todo o y q v e c;obtain ⟨N,rfl⟩:∃N',N=N'+1:=⟨N-1,om⟩;have s1:Ff F S y5 (N+1) todo B (a:Int)=K1 F S y5 (Ff F S y5 N) todo B (a:Int):=rfl;rw [s1];have r:a<S.length:=by rw [i.1];omega
  have b:=i.row (a:=a) om;have s:=A39 (S:=S.getD a []);rw [b] at s;rw [Nat.add_mul] at v;obtain ⟨B1,t1,w1,w2,w3,w4,w5,w6⟩:=A4f k (a:=a) (T:=S.getD a []) (by rw [b];exact hm) (Ff F S y5 N) 0 (Kn (S.getD a [])).length F 0 B todo om om q om;obtain ⟨B2,t2,g1,g2,g3,g4,g5⟩:=ih N (a+1) B1 t1 om om w2 om (λx z=>by
   rcases w5 x z with h|⟨u,j,f⟩
   ·exact e x h
   ·have:=(Vs.1 (W6 j).1).1;rw [b] at this;exact ⟨(a,kn (S.getD a []) u),f,by show a<n;omega,this⟩) (λp hp d=>by
   by_cases g:p.1=a
   ·rw [g] at d;obtain ⟨u,j,f⟩:=A2u (A30 d) d;have:=w4 u (Nat.zero_le _) j;rw [f,←g] at this;exact this
   ·exact w3 _ (c p om d))
  refine ⟨B2,t2,?_,g2,g3,g4,by rw [Nat.add_mul];omega⟩;rw [←g1];unfold K1;rw [i.1,B8 (by simp;omega),A8x r,A51 k (by rw [b];omega),sb];rw [show ((0:Nat):Int)=0 from rfl] at w1;rw [w1];unfold Nl;rw [ckb om,Zm]
structure MI (S:Rays) (R:Lnk) (n m:Nat) (W:Rays) (todo:List zE) (B:Waits):Prop where
 inv:Inv S R n m W
 ti:TI B todo
 inr:∀x,x∈todo->∃p:Pl,x=pl p/\p.1<n/\p.2<m
theorem A6x (hF:FF<=F) (hR:∀p q d,both R p q d->0<=d/\d<=1000000000/\p.1<n/\p.2<m/\q.1<n/\q.2<m) {B0:Bonds} {c0:Nat} (s:WI R B0 c0) (c7:c0<=9000000) (S0:Rays) (p:Pl) (hp:p.1<n/\p.2<m) (k3:List zE->Rays->Waits->Option Rays) :
  ∀(t N k:Nat) (W:Rays) (todo:List zE) (B:Waits),k+t=(Bd B0 (pl p)).length->t<N->MI S R n m W todo B->todo.length+t<=5000000000000 ->
  (∀r q d,both R r q d->pl r∈todo\/Supp (gf W) r q d\/(r=p/\(⟨pl q,d⟩:zL)∈(Bd B0 (pl p)).drop k)) ->
  ∃W' todo' B',D0 F ⟨S0,B0⟩ k3 (pl p) N todo W B (k:Int)=k3 todo' W' B'/\MI S R n m W' todo' B'/\(∀r q d,both R r q d->pl r∈todo'\/Supp (gf W') r q d)/\todo'.length+Vol W'<=todo.length+Vol W:=by
 have c3:=s.len (pl p);intro t
 induction t with
 | zero =>
  intro N k W todo B hk hN j hl hs;obtain ⟨N,rfl⟩:∃N',N=N'+1:=⟨N-1,om⟩;refine ⟨W,todo,B,?_,j,λr q d h=>?_,Nat.le_refl _⟩
  ·show Ha F ⟨S0,B0⟩ k3 (pl p) (D0 F ⟨S0,B0⟩ k3 (pl p) N) todo W B (k:Int)=_;unfold Ha;refine Au ?_;show decide ((k:Int)<(((Bd B0 (pl p)).length:Nat):Int))=false;simp;omega
  ·rcases hs r q d h with h|h|⟨_,h⟩
   ·exact .inl h
   ·exact .inr h
   ·rw [List.drop_eq_nil_of_le om] at h;cases h
 | succ t ih =>
  intro N k W todo B hk hN j hl hs;obtain ⟨N,rfl⟩:∃N',N=N'+1:=⟨N-1,om⟩;have s1:D0 F ⟨S0,B0⟩ k3 (pl p) (N+1) todo W B (k:Int)=Ha F ⟨S0,B0⟩ k3 (pl p) (D0 F ⟨S0,B0⟩ k3 (pl p) N) todo W B (k:Int):=rfl;rw [s1];have u:k<(Bd B0 (pl p)).length:=om
  have f:(Bd B0 (pl p))[k]∈Bd B0 (pl p):=List.getElem_mem u;obtain ⟨p',q,e1,e2⟩:=s.form _ _ f;obtain ⟨d,hd⟩:∃d,(Bd B0 (pl p))[k]=⟨pl q,d⟩:=by
   refine ⟨(Bd B0 (pl p))[k].most,?_⟩;rw [←e2]
  rw [hd] at f;have b3:both R p q d:=(s.iff p q d).1 f;obtain ⟨d1,d2,d3,d4,d5,d6⟩:=hR p q d b3;have g:(Bd B0 (pl p)).drop k=⟨pl q,d⟩::(Bd B0 (pl p)).drop (k+1):=by rw [List.drop_eq_getElem_cons u,hd]
  have l:=j.inv.good.good;have c4:Good (nr (gf W q) (gf W p) d):=(l q).nr (l p) d1;have c5:=(l q).len;have b4:Av ((lkM B0 (pl p)).getD []) (k:Int)=some ⟨pl q,d⟩:=by
   show Av (Bd B0 (pl p)) (k:Int)=_;unfold Av;rw [if_pos om,Int.toNat_natCast,List.getElem?_eq_getElem u,hd]
  have b:=j.inv.shape;have key:Ha F ⟨S0,B0⟩ k3 (pl p) (D0 F ⟨S0,B0⟩ k3 (pl p) N) todo W B (k:Int) =
    if gf W q=nr (gf W q) (gf W p) d then D0 F ⟨S0,B0⟩ k3 (pl p) N todo W B ((k+1:Nat):Int)
    else (Fa F (pl q) B todo).bind λy=>D0 F ⟨S0,B0⟩ k3 (pl p) N y.2 (sf W q (nr (gf W q) (gf W p) d)) y.1 ((k+1:Nat):Int):=by
   unfold Ha;have e3:decide ((k:Int)<((((lkM B0 (pl p)).getD []).length:Nat):Int))=true:=by
    show decide ((k:Int)<(((Bd B0 (pl p)).length:Nat):Int))=true;simp;omega
   refine (B8 e3).trans ?_;show ((Av ((lkM B0 (pl p)).getD []) (k:Int)).bind _)=_;rw [b4,sb];show ((Av W (q.1:Int)).bind λu3280=>(Av u3280 (q.2:Int)).bind λu3288=>(Av W (p.1:Int)).bind λu3295=>(Av u3295 (p.2:Int)).bind λu3303=>(Gk F u3288 u3303 d).bind λy3311=>(Ce F u3288 y3311).bind λy3314 =>
    bif (!y3314) then ((Av W (q.1:Int)).bind λu3315=>(Av u3315 (q.2:Int)).bind λu3323=>(Ka u3315 (q.2:Int) y3311).bind λl3334=>(Ka W (q.1:Int) l3334).bind λl3335=>(Fa F (pl q) B todo).bind λy3338=>Hb (k:Int) (D0 F ⟨S0,B0⟩ k3 (pl p) N) y3338.2 l3335 y3338.1) else (Hb (k:Int) (D0 F ⟨S0,B0⟩ k3 (pl p) N) todo W B))=_
   have r1:=b.row d5;have r2:=b.row d3;rw [A8x (by rw [b.1];exact d5),B1a (by rw [r1];exact d6),A8x (by rw [b.1];exact d3),B1a (by rw [r2];exact d4)];have c1:=B4p hF (l q) (l p) ⟨d1,d2⟩;have b5:Gk F (gt (W.getD q.1 []) q.2) (gt (W.getD p.1 []) p.2) d=some (nr (gf W q) (gf W p) d):=c1;rw [b5,sb,Pe hF _ _ (by show (gf W q).length<=_;omega),sb]
   by_cases he:gf W q=nr (gf W q) (gf W p) d
   ·have e4:decide (gt (W.getD q.1 []) q.2=nr (gf W q) (gf W p) d)=true:=decide_eq_true he;rw [e4,if_pos he];refine (Au rfl).trans ?_;unfold Hb;rw [ckb om,Zm]
   ·have e4:decide (gt (W.getD q.1 []) q.2=nr (gf W q) (gf W p) d)=false:=decide_eq_false he;rw [e4,if_neg he];unfold sf;refine (B8 rfl).trans ?_;rw [A8x (by rw [b.1];exact d5),B1a (by rw [r1];exact d6),C10 (by rw [r1];exact d6),C11 (by rw [b.1];exact d5)];generalize Fa F (pl q) B todo=o
    cases o with
    | none=>rw [nb,nb]
    | some y =>
     rw [sb,sb];unfold Hb;rw [ckb om,Zm]
  rw [key]
  by_cases he:gf W q=nr (gf W q) (gf W p) d
  ·rw [if_pos he];refine ih N (k+1) W todo B om om j om λr q' d' h=>?_;rcases hs r q' d' h with h|h|⟨h1,v⟩
   ·exact .inl h
   ·exact .inr (.inl h)
   ·rw [g] at v;rcases List.mem_cons.1 v with c|c
    ·clear v
     simp only [zL.mk.injEq] at c;have b0:=Wc c.1;have hd':=c.2
     clear c
     subst b0 hd' h1;exact .inr (.inl ((B4s l d1).1 he.symm))
    ·exact .inr (.inr ⟨h1,c⟩)
  ·rw [if_neg he];obtain ⟨B1,t1,w1,w2,w3,w4,w5,w6⟩:=A8e F (pl q) j.ti om;rw [w1,sb];obtain ⟨i1,i2⟩:=j.inv.step (p:=p) (q:=q) d1 ⟨d5,d6⟩ b3;have hv:=i2 (λe=>he e.symm);have b1:=B1d (x:=nr (gf W q) (gf W p) d) b ⟨d5,d6⟩;obtain ⟨W',t',B',g1,g2,g3,g4⟩:=ih N (k+1) _ t1 B1 om om ⟨i1,w2,λx hx=>by
    rcases w5 x hx with h|h
    ·exact j.inr x h
    ·exact ⟨q,h,d5,d6⟩⟩ om (λr q' d' h=>by
    by_cases b7:r=q
    ·subst b7;exact .inl w3
    ·have b8:∀x:Pl,∀z,mem z (gf (sf W q (nr (gf W q) (gf W p) d)) x)->mem z (gf W x):=by rw [b1];exact A55 l d1
     have i:gf (sf W q (nr (gf W q) (gf W p) d)) r=gf W r:=by rw [b1];unfold A5t;rw [if_neg b7]
     rcases hs r q' d' h with h|h|⟨h1,v⟩
     ·exact .inl (w4 _ h)
     ·refine .inr (.inl λz hz=>?_);rw [i];exact h z (b8 q' z hz)
     ·rw [g] at v;rcases List.mem_cons.1 v with c|c
      ·clear v
       simp only [zL.mk.injEq] at c;have b0:=Wc c.1;have hd':=c.2
       clear c
       subst b0 hd' h1;refine .inr (.inl λz hz=>?_);rw [i];rw [b1] at hz;unfold A5t at hz;rw [if_pos rfl] at hz;exact ((Xt (l r).1.2 d1 z).1 hz).2
      ·exact .inr (.inr ⟨h1,c⟩))
   exact ⟨W',t',B',g1,g2,g3,om⟩
theorem A5k (u:FF<=F) (hR:∀p q d,both R p q d->0<=d/\d<=1000000000/\p.1<n/\p.2<m/\q.1<n/\q.2<m) {B0:Bonds} {c0:Nat} (c:WI R B0 c0) (j:c0<=9000000) (S0:Rays) :
  ∀(v N:Nat) (W:Rays) (todo:List zE) (B:Waits),todo.length+Vol W<=v->v<N->v<=4000000000000->MI S R n m W todo B->(∀r q d,both R r q d->pl r∈todo\/Supp (gf W) r q d) ->
  ∃G,Fe F ⟨S0,B0⟩ N todo W B=some G/\Inv S R n m G/\Stable R (gf G):=by
 have k:=u;unfold FF at k;intro v
 induction v with
 | zero =>
  intro N W todo B y hN hV b i;obtain ⟨N,rfl⟩:∃N',N=N'+1:=⟨N-1,om⟩;have ht:todo=[]:=List.eq_nil_of_length_eq_zero om;subst ht;refine ⟨W,?_,b.inv,λr q d h=>(i r q d h).elim (λh=>by cases h) id⟩
  show H9 F ⟨S0,B0⟩ (Fe F ⟨S0,B0⟩ N) [] W B=_;unfold H9;rw [Au sm];rfl
 | succ v ih =>
  intro N W todo B y hN hV b i;obtain ⟨N,rfl⟩:∃N',N=N'+1:=⟨N-1,om⟩;have s1:Fe F ⟨S0,B0⟩ (N+1) todo W B=H9 F ⟨S0,B0⟩ (Fe F ⟨S0,B0⟩ N) todo W B:=rfl;rw [s1]
  cases todo with
  | nil =>
   refine ⟨W,?_,b.inv,λr q d h=>(i r q d h).elim (λh=>by cases h) id⟩
   unfold H9;rw [Au sm];rfl
  | cons x rest =>
   obtain ⟨p,rfl,l,o⟩:=b.inr x sm;have z:=c.len (pl p);simp only [List.length_cons] at y;have f:Sx (pl p::rest) 1 (((pl p::rest).length:Nat):Int)=some rest:=by
    unfold Sx;rw [if_pos ⟨om,by simp only [List.length_cons];omega,Int.le_refl _⟩]
    congr 1
    show (rest.drop 0).take ((((pl p::rest).length:Nat):Int).toNat-1)=rest;rw [List.drop_zero,Int.toNat_natCast,List.length_cons];exact List.take_of_length_le om
   have g:Av (pl p::rest) 0=some (pl p):=rfl;unfold H9;rw [B8 sm,g,sb,f,sb];have s:TI (Ud B (pl p)) rest:=⟨B7b b.ti.nd _,λr hr=>by
    rw [B7p b.ti.nd] at hr
    split at hr
    ·simp at hr
    ·rename_i t
     rcases List.mem_cons.1 (b.ti.inl r hr) with h|h
     ·exact absurd h t
     ·exact h⟩
   obtain ⟨W',t',B',g1,g2,g3,g4⟩:=A6x (S:=S) u hR c j S0 p ⟨l,o⟩ (Fe F ⟨S0,B0⟩ N) (Bd B0 (pl p)).length F 0 W rest (Ud B (pl p)) om om ⟨b.inv,s,λx hx=>b.inr x (by simp [hx])⟩ om (λr q d h=>by
    rcases i r q d h with e|e
    ·rcases List.mem_cons.1 e with e|e
     ·have:=Wc e;subst this;exact .inr (.inr ⟨rfl,by rw [List.drop_zero];exact (c.iff r q d).2 h⟩)
     ·exact .inl e
    ·exact .inr (.inl e))
   rw [show ((0:Nat):Int)=0 from rfl] at g1;rw [g1];exact ih N W' t' B' om om om g2 g3
theorem A9o (l:FS<=F) (c:Shape S n m) (s:AllG S) (hn:n<=1000) (hm:m<=1000) (hj:0<=jp/\jp<=400000) (hb:br<=16) :
  ∃G,S8 F S jp br=some G/\Inv S (LL S br jp) n m G/\Stable (LL S br jp) (gf G):=by
 have e:FF<=F:=by unfold FS at l;unfold FF;omega
 obtain ⟨B0,b1,b2⟩:=B3l e c hn hm hj hb;unfold S8;rw [b1,sb];have j:=e;unfold FF at j;have t:n*m<=1000*1000:=Nat.mul_le_mul hn hm;obtain ⟨B1,t1,w1,w2,w3,w4,w5⟩:=A8l e c hn hm ⟨S,B0⟩ n F 0 [] [] om om ⟨.nil,λr hr=>by simp [lkM] at hr⟩ (by simp;omega) (λx u=>by cases u) (λp hp=>by omega)
 rw [show ((0:Nat):Int)=0 from rfl] at w1;rw [w1];unfold Nk;have v:∀p q d,both (LL S br jp) p q d->0<=d/\d<=1000000000/\p.1<n/\p.2<m/\q.1<n/\q.2<m:=by
  rintro p q d (h|h)
  ·have b:=A0z c h;have f:=B9d c hj hb h;exact ⟨f.1,f.2,b.1,b.2.1,b.2.2.1,b.2.2.2.1⟩
  ·have b:=A0z c h;have f:=B9d c hj hb h;exact ⟨f.1,f.2,b.2.2.1,b.2.2.2.1,b.1,b.2.1⟩
 have hv:=B6p c;have hh:n*(m*HN)<=1000*(1000*HN):=Nat.mul_le_mul hn (Nat.mul_le_mul hm (Nat.le_refl _));have y:=B5x;unfold FS at l;simp only [List.length_nil] at w5;refine A5k e v b2 om S (t1.length+Vol S) F S t1 B1 (Nat.le_refl _) om om ⟨⟨c,s,Below.refl _,λh _ hb=>hb⟩,w2,w3⟩ λr q d h=>.inl ?_;have g:∀p q d,LL S br jp p q d->ne (S.getD p.1 []) p.2=true/\ne (S.getD q.1 []) q.2=true:=by
  rintro p q d (⟨b,f,i,o⟩|⟨b,f,i,k,o,z,h6⟩)
  ·exact ⟨i.2.2.1,by rw [←b];exact i.2.2.2.1⟩
  ·exact ⟨f,by rw [z,←i];exact o.2.2.2.1⟩
 rcases h with h|h
 ·exact w4 r (A0z c h).1 (g _ _ _ h).1
 ·exact w4 r (A0z c h).2.2.1 (g _ _ _ h).2
end
theorem A7l {x:zD} {m:Int} (e:30000<=t.Lambda) (f:1<=us t w/\us t w<=2999) (hm:1<=m/\m<=60000) (b:turnB (stepOf x w)=true):¬B0a t x m w:=by
 unfold turnB at b;simp only [decide_eq_true_eq] at b;have c:0<65536*us t w:=om
 rintro (h|h)<;>unfold isw spw Ph spd at h<;>simp only [decide_eq_true_eq] at h
 ·have d:60001<=-(500*t.Lambda*((stepOf x w).Hi + -64*65536))/(65536*us t w):=by
   apply Int.le_ediv_of_mul_le c;have:500*t.Lambda*((stepOf x w).Hi + -64*65536)<=500*t.Lambda*(-4096002):=Int.mul_le_mul_of_nonneg_left om om;omega
  split at h<;>split at h<;>omega
 ·have d:60001<=500*t.Lambda*((stepOf x w).Lo+64*65536)/(65536*us t w):=by
   apply Int.le_ediv_of_mul_le c;have:500*t.Lambda*4161536<=500*t.Lambda*((stepOf x w).Lo+64*65536):=Int.mul_le_mul_of_nonneg_left om om;omega
  split at h<;>split at h<;>omega
theorem Tv (b:0<=x) (c:0<y):Jr x y=some (x%y):=by
 unfold Jr;rw [if_neg om,Int.tmod_eq_emod_of_nonneg b]
theorem A7h (a b:zA):a.Lo<=(Ph a b).Lo/\(Ph a b).Hi<=a.Hi/\b.Lo<=(Ph a b).Lo/\(Ph a b).Hi<=b.Hi:=by
 unfold Ph;simp only;refine ⟨?_,?_,?_,?_⟩<;>split<;>omega
def hit (t:zH) (w:Int) (s:zA) (v:Int):Prop:=∃k,-64<=k/\k<=64/\(spd t w s k).Lo<=v/\v<=(spd t w s k).Hi
section
variable {x:zD} {m v:Int}
theorem B1o:∀(n:Nat) (a y:Int),a<=y->y<a+n->y∈kr n a
 | 0,a,y,b,c=>by omega
 | n+1,a,y,b,c=>by
  unfold kr
  by_cases h:y=a
  ·rw [h];exact List.mem_cons_self ..
  ·exact List.mem_cons_of_mem _ (B1o n (a+1) y om om)
theorem A83 (h:hit t w (stepOf x w) v) (c:-m<=v/\v<=m):∃o∈Td t x m w,o.speed.Lo<=v/\v<=o.speed.Hi:=by
 obtain ⟨k,d,e,f,g⟩:=h;have b:(spw t x m w k).Lo<=v/\v<=(spw t x m w k).Hi:=by
  unfold spw Ph;simp only;constructor<;>split<;>omega
 refine ⟨⟨k,spw t x m w k⟩,List.mem_filterMap.2 ⟨k,B1o 129 (-64) k om om,?_⟩,b⟩;unfold og isw;rw [if_pos (decide_eq_true om)]
def gl (t:zH) (x:zD) (m:Int):List zF:=if t.Kind=1 then (Td t x m 0).map (λf=>⟨(f.whole,0),f.speed⟩) else (Td t x m 0).flatMap (λu=>(Td t x m 1).filterMap (gg u))
theorem A6d:(gl t x m).length<=129*129:=by
 unfold gl
 split
 ·have:=Uh (t:=t) (x:=x) (m:=m) (w:=0);rw [List.length_map];omega
 ·exact B2p
theorem B9q (F:Nat) (f:2000<=F) (h:Sq t=0) (e:∀w,inB (stepOf x w) (-131072) 131072=true) (hm:1<=m/\m<=200000) (h0:¬B0a t x m 0) (g:t.Kind≠1->¬B0a t x m 1):Nz F (pt t) x m=some (gl t x m,true):=by
 have ho:=Uh (t:=t) (x:=x) (m:=m) (w:=0);have i:=Uh (t:=t) (x:=x) (m:=m) (w:=1);have e1:∀{β:Type} (a b:β),(bif !(true:Bool) then a else b)=b:=λ_ _=>rfl;unfold Nz gl;rw [Vw,A7x F om ⟨h,.inl rfl⟩ e hm,sb,if_neg (show ¬(isw t x m 0 (-64)=true\/isw t x m 0 64=true) from h0)];simp only [e1]
 by_cases c:t.Kind=1
 ·rw [B8 (by simpa [pt] using c),if_pos c];have:=B2i (Td t x m 0,true) (by simp;omega) (Td t x m 0).length F 0 [] sm om (by simp;omega);have d:Gd (Td t x m 0,true) F [] 0=_:=this;rw [d];simp
 ·rw [Au (by simpa [pt] using c),if_neg c];unfold Py;rw [Vw,A7x F om ⟨h,.inr ⟨rfl,c⟩⟩ e hm,sb,if_neg (show ¬(isw t x m 1 (-64)=true\/isw t x m 1 64=true) from g c)];have:=B3h F f (Td t x m 0,true) (Td t x m 1,true) (by simp;omega) (by simp;omega) (Td t x m 0).length F 0 [] sm om (by simp;omega);have d:Ew F (Td t x m 0,true) (Td t x m 1,true) F [] 0=_:=this;rw [d];simp
theorem B1e (h0:hit t 0 (stepOf x 0) v) (e:t.Kind≠1->hit t 1 (stepOf x 1) v) (d:-m<=v/\v<=m):∃g∈gl t x m,g.Speed.Lo<=v/\v<=g.Speed.Hi:=by
 obtain ⟨o,o1,o2⟩:=A83 h0 d;unfold gl
 by_cases b:t.Kind=1
 ·rw [if_pos b];exact ⟨_,List.mem_map_of_mem o1,o2⟩
 ·rw [if_neg b];obtain ⟨p,p1,p2⟩:=A83 (e b) d;have c:(Ph o.speed p.speed).Lo<=v/\v<=(Ph o.speed p.speed).Hi:=by
   unfold Ph;simp only;constructor<;>split<;>omega
  refine ⟨⟨(o.whole,p.whole),Ph o.speed p.speed⟩,List.mem_flatMap.2 ⟨o,o1,List.mem_filterMap.2 ⟨p,p1,?_⟩⟩,c⟩;unfold gg Sb;rw [if_pos (decide_eq_true om)]
theorem A4v {g:zF} (h:g∈gl t x m):g.Speed.Lo<=g.Speed.Hi/\-m<=g.Speed.Lo/\g.Speed.Hi<=m:=by
 have b:∀{w} {o:zM},o∈Td t x m w->o.speed.Lo<=o.speed.Hi/\-m<=o.speed.Lo/\o.speed.Hi<=m:=by
  intro w o ho;obtain ⟨k,_,c⟩:=List.mem_filterMap.1 ho;unfold og at c
  split at c
  ·rename_i d
   cases c
   unfold isw at d;have:=of_decide_eq_true d;have e:=A7h (spd t w (stepOf x w) k) ⟨-m,m⟩;unfold spw at this ⊢;simp only at e ⊢;omega
  ·cases c
 unfold gl at h
 split at h
 ·obtain ⟨o,ho,rfl⟩:=List.mem_map.1 h;exact b ho
 ·obtain ⟨o,ho,h⟩:=List.mem_flatMap.1 h;obtain ⟨p,f,h⟩:=List.mem_filterMap.1 h;unfold gg Sb at h
  split at h
  ·rename_i d
   cases h
   have:=of_decide_eq_true d;have i:=b ho;have j:=b f;have e:=A7h o.speed p.speed;simp only;omega
  ·cases h
end
section
variable {γ:Type}
theorem T9 {A B:List α} {y:α} {k:Nat} (h:A.length=k) (f:α->Option β):(Av (A++y::B) (k:Int)).bind f=f y:=by
 subst h;unfold Av;rw [if_pos om,Int.toNat_natCast,List.getElem?_append_right (Nat.le_refl _),Nat.sub_self];rfl
theorem Tl {A B:List α} {y z:α} {k:Nat} (h:A.length=k) (f:List α->Option β):(Ka (A++y::B) (k:Int) z).bind f=f (A++z::B):=by
 subst h;unfold Ka;rw [if_pos (by simp;omega),Int.toNat_natCast,List.set_append_right _ _ (Nat.le_refl _),Nat.sub_self];rfl
theorem mkb {B:Nat} {x:α} {f:List α->Option β} (h:B*n<=281474976710656) (b:n<=1000000):(mkI B ((n:Nat):Int) x).bind f=f (List.replicate n x):=by
 unfold mkI;rw [if_pos ⟨om,by rw [Int.toNat_natCast];exact h,om⟩,Int.toNat_natCast];rfl
def PA (n m:Nat) (f:Nat->Nat->α) (a:Nat):List (List α):=(List.range a).map (λb=>(List.range m).map (f b))++List.replicate (n-a) []
def PB (n m:Nat) (d:α) (f:Nat->Nat->α) (a i:Nat):List (List α):=(List.range a).map (λb=>(List.range m).map (f b))++((List.range i).map (f a)++List.replicate (m-i) d)::List.replicate (n-(a+1)) []
def PC (n m:Nat) (f:Nat->Nat->α) (a i:Nat):List (List α):=(List.range a).map (λb=>(List.range m).map (f b))++((List.range i).map (f a))::List.replicate (n-(a+1)) []
theorem A3a (n m:Nat) (f:Nat->Nat->α):PA n m f 0=List.replicate n []:=by simp [PA]
theorem B01 (c:a<n) (f:Nat->Nat->α):PA n m f a=(List.range a).map (λb=>(List.range m).map (f b))++[]::List.replicate (n-(a+1)) []:=by
 unfold PA;rw [show n-a=(n-(a+1))+1 by omega,List.replicate_succ]
theorem B02 (b:a<n) (d:α) (f:Nat->Nat->α):PB n m d f a m=PA n m f (a+1):=by
 unfold PA PB;rw [Nat.sub_self,List.range_succ,List.map_append];simp
theorem B3o (b:a<n) (f:Nat->Nat->α):PA n m f a=PC n m f a 0:=B01 b f
theorem B6k (b:a<n) (f:Nat->Nat->α):PC n m f a m=PA n m f (a+1):=by
 unfold PA PC;rw [List.range_succ,List.map_append];simp
theorem A86 (hi:i<m) (d:α) (f:Nat->α):(List.range i).map f++List.replicate (m-i) d=(List.range i).map f++d::List.replicate (m-(i+1)) d:=by
 rw [show m-i=(m-(i+1))+1 by omega,List.replicate_succ]
theorem A5d (m i:Nat) (d:α) (f:Nat->α):(List.range i).map f++f i::List.replicate (m-(i+1)) d=(List.range (i+1)).map f++List.replicate (m-(i+1)) d:=by
 rw [List.range_succ,List.map_append,List.append_assoc];rfl
theorem A5w (n m:Nat) (f:Nat->Nat->α):PA n m f n=(List.range n).map (λb=>(List.range m).map (f b)):=by simp [PA]
theorem W5 (c:a<n) (f:Nat->Nat->α) (k:List α->Option β):(Av ((List.range n).map (λb=>(List.range m).map (f b))) (a:Int)).bind k=k ((List.range m).map (f a)):=by
 unfold Av;rw [if_pos om,Int.toNat_natCast,List.getElem?_map,List.getElem?_range c];rfl
theorem Ss (hi:i<m) (f:Nat->α) (k:α->Option β):(Av ((List.range m).map f) (i:Int)).bind k=k (f i):=by
 unfold Av;rw [if_pos om,Int.toNat_natCast,List.getElem?_map,List.getElem?_range hi];rfl
end
def Xd (set:List zA) (g:zF):Option zF :=
 if 0<(mt set [g.Speed]).length then some ⟨(g.Whole.1,g.Whole.2),⟨((mt set [g.Speed]).getD 0 default).Lo,((mt set [g.Speed]).getD ((mt set [g.Speed]).length-1) default).Hi⟩⟩ else none
def mkF (r:List zF):zK:=⟨if r.length=0 then 4 else if r.length=1 then 2 else 3,r⟩
def A2w (l:List zF) (set:List zA):zK:=mkF (l.filterMap (Xd set))
theorem B1p (r:List zF) (h:r.length<=1000000000):Qp r=some (mkF r):=by
 unfold Qp mkF
 match r,h with
 | [],_=>rfl
 | [a],_=>rfl
 | a::b::c,h =>
  have e:(if (((a::b::c).length:Nat):Int)<2 then (((a::b::c).length:Nat):Int) else 2)=((2:Nat):Int):=by
   rw [if_neg (by simp;omega)];rfl
  rw [e,if_neg sm,if_neg sm];rfl
theorem A95 (j:FF<=F) {set:List zA} (c:Good set) {l:List zF} (r:l.length<=1000000) (k:∀g∈l,g.Speed.Lo<=g.Speed.Hi):∀(n N i:Nat) (acc:List zF),i+n=l.length->n<N->acc.length+n<=1000000 ->
  Ma F l set N (i:Int) acc=some (mkF (acc++(l.drop i).filterMap (Xd set))):=by
 intro n
 induction n with
 | zero =>
  intro N i acc hi m o;obtain ⟨N,rfl⟩:∃N',N=N'+1:=⟨N-1,om⟩;show M9 F l set (Ma F l set N) (i:Int) acc=_;unfold M9;rw [Au (by simp;omega),List.drop_eq_nil_of_le om,B1p _ om];simp
 | succ n ih =>
  intro N i acc hi m o;obtain ⟨N,rfl⟩:∃N',N=N'+1:=⟨N-1,om⟩;show M9 F l set (Ma F l set N) (i:Int) acc=_;unfold M9;have hm:l.getD i default∈l:=by rw [List.getD_eq_getElem?_getD,List.getElem?_eq_getElem (by omega:i<l.length)];exact List.getElem_mem _
  rw [B8 (by simp;omega),J3 default om,Int.toNat_natCast,G7 (i:=i) om default];obtain ⟨g,p⟩:∃g,l.getD i default=g:=⟨_,rfl⟩;rw [p] at hm ⊢;have d:=k g hm;have f:=c.len;rw [A80 j om sm c.1 ⟨List.pairwise_singleton _ _,by intro s h;simp at h;subst h;exact d⟩ c.big,sb,List.filterMap_cons];have q:(mt set [g.Speed]).length<=400001:=(Good.mt (a:=set) (b:=[g.Speed]) c).len;unfold Xd
  by_cases h0:0<(mt set [g.Speed]).length
  ·rw [B8 (by simpa using h0),J3 default om,ckb om,J3 default om,if_pos h0,R9 (by simp;omega)];unfold P0;rw [ckb om];have:=ih N (i+1) (acc++[⟨(g.Whole.1,g.Whole.2),⟨((mt set [g.Speed]).getD 0 default).Lo,((mt set [g.Speed]).getD ((mt set [g.Speed]).length-1) default).Hi⟩⟩]) om om (by simp;omega);rw [Int.natCast_add] at this;have e:((((mt set [g.Speed]).length:Nat):Int)-1).toNat=(mt set [g.Speed]).length-1:=om
   rw [e];refine Eq.trans this ?_;rw [List.append_assoc];rfl
  ·rw [Au (by simpa using h0),if_neg h0];unfold P0;rw [ckb om];have:=ih N (i+1) acc om om om;rw [Int.natCast_add] at this;exact this
theorem B4l (b:FF<=F) {set:List zA} (c:Good set) {l:List zF} (d:l.length<=1000000) (e:∀g∈l,g.Speed.Lo<=g.Speed.Hi):X1 F l set=some (A2w l set):=by
 have f:=b;unfold FF at f;exact A95 b c d e l.length F 0 [] om om (by simp;omega)
section
variable {s:zJ} {mst:Int}
def gX (s:zJ) (a i:Nat):zD:=(s.Rays.getD a []).getD i default
def sX (t:zH) (s:zJ) (mst:Int) (a i:Nat):List zA:=if (gX s a i).Kind=3 then un ((gl t (gX s a i) mst).map (·.Speed)) else []
def aX (t:zH) (s:zJ) (mst:Int) (a i:Nat):List zF:=if (gX s a i).Kind=3 then gl t (gX s a i) mst else []
def SX (t:zH) (s:zJ) (mst:Int) (n m:Nat):Rays:=(List.range n).map λa=>(List.range m).map (sX t s mst a)
def A7a (F:Nat) (t:zH) (s:zJ) (mst:Int):Prop:=∀a i,(gX s a i).Kind=3->Nz F (pt t) (gX s a i) mst=some (gl t (gX s a i) mst,true)
theorem A35 {x:zD} (hm:1<=mst/\mst<=200000):Good (un ((gl t x mst).map (·.Speed)))/\valid ((gl t x mst).map (·.Speed))/\Ro 200000 ((gl t x mst).map (·.Speed)):=by
 have b:valid ((gl t x mst).map (·.Speed)):=by
  intro p c;obtain ⟨g,d,rfl⟩:=List.mem_map.1 c;exact (A4v d).1
 have e:Ro 200000 ((gl t x mst).map (·.Speed)):=by
  intro p c;obtain ⟨g,d,rfl⟩:=List.mem_map.1 c;have:=A4v d;omega
 exact ⟨⟨Um b,S3 (Um b).2 λz f=>Ta e ((Zy b z).1 f)⟩,b,e⟩
theorem B54 (hm:1<=mst/\mst<=200000) (a i:Nat):Good (sX t s mst a i):=by
 unfold sX
 split
 ·exact (A35 hm).1
 ·exact A4w
theorem A5l (x17831:Int) (S:List (List (List zA))) (x19851:Int) (k9:List (List (List zA))->List (List (List zF))->Int->Option (List (List zK)×Int)) (y:List zF×Bool) (d:y.1.length<=1000000) (A:List (List (List zF))) :
  ∀(q N i:Nat) (acc:List zA),i+q=y.1.length->q<N->acc.length+q<=1000000->Hw F x17831 S x19851 k9 y A N (i:Int) acc=Ml F x17831 S x19851 k9 A (acc++(y.1.drop i).map (·.Speed)):=by
 intro q
 induction q with
 | zero =>
  intro N i acc hi b c;obtain ⟨N,rfl⟩:∃N',N=N'+1:=⟨N-1,om⟩;show Hv F x17831 S x19851 k9 y A (Hw F x17831 S x19851 k9 y A N) (i:Int) acc=_;unfold Hv;rw [Au (by simp;omega),List.drop_eq_nil_of_le om];simp
 | succ q ih =>
  intro N i acc hi b c;obtain ⟨N,rfl⟩:∃N',N=N'+1:=⟨N-1,om⟩;show Hv F x17831 S x19851 k9 y A (Hw F x17831 S x19851 k9 y A N) (i:Int) acc=_;unfold Hv;rw [B8 (by simp;omega),J3 default om,Int.toNat_natCast,R9 (by simp;omega),ckb om];have:=ih N (i+1) (acc++[(y.1.getD i default).Speed]) om om (by simp;omega);rw [Int.natCast_add] at this;refine Eq.trans this ?_;rw [G7 (i:=i) om default];simp
theorem A6c (k:FF<=F) (u:A7a F t s mst) (hm:1<=mst/\mst<=200000) (l:a<n) (hn:n<=1000) (v:m<=1000) (hr:(s.Rays.getD a []).length=m)
  (k7:List (List (List zA))->List (List (List zF))->Int->Option (List (List zK)×Int)):∀(q N i:Nat),i+q=m->q<N ->
  H8 F (pt t) mst (a:Int) k7 (s.Rays.getD a []) N (PB n m [] (sX t s mst) a i) (PB n m [] (aX t s mst) a i) (i:Int)=k7 (PA n m (sX t s mst) (a+1)) (PA n m (aX t s mst) (a+1)) ((a+1:Nat):Int):=by
 have j:=k;unfold FF at j;intro q
 induction q with
 | zero =>
  intro N i hi y;obtain ⟨N,rfl⟩:∃N',N=N'+1:=⟨N-1,om⟩;obtain rfl:i=m:=om
  show K0 F (pt t) mst (a:Int) k7 (s.Rays.getD a []) (H8 F (pt t) mst (a:Int) k7 (s.Rays.getD a []) N) _ _ (i:Int)=_;unfold K0 Qo;rw [Au (decide_eq_false om),ckb om,B02 l,B02 l];rfl
 | succ q ih =>
  intro N i hi y;obtain ⟨N,rfl⟩:∃N',N=N'+1:=⟨N-1,om⟩;show K0 F (pt t) mst (a:Int) k7 (s.Rays.getD a []) (H8 F (pt t) mst (a:Int) k7 (s.Rays.getD a []) N) _ _ (i:Int)=_;unfold K0;have z:(s.Rays.getD a []).getD i default=gX s a i:=rfl;have ihh:=ih N (i+1) om om;rw [Int.natCast_add] at ihh;have f:((List.range a).map (λb=>(List.range m).map (sX t s mst b))).length=a:=by simp
  have c:((List.range a).map (λb=>(List.range m).map (aX t s mst b))).length=a:=by simp
  have g:((List.range i).map (sX t s mst a)).length=i:=by simp
  have d:((List.range i).map (aX t s mst a)).length=i:=by simp
  rw [B8 (decide_eq_true om),J3 default om,Int.toNat_natCast,z];have e1:PB n m [] (sX t s mst) a (i+1)=(List.range a).map (λb=>(List.range m).map (sX t s mst b))++((List.range i).map (sX t s mst a)++sX t s mst a i::List.replicate (m-(i+1)) [])::List.replicate (n-(a+1)) []:=by
   unfold PB;rw [A5d]
  have e2:PB n m [] (aX t s mst) a (i+1)=(List.range a).map (λb=>(List.range m).map (aX t s mst b))++((List.range i).map (aX t s mst a)++aX t s mst a i::List.replicate (m-(i+1)) [])::List.replicate (n-(a+1)) []:=by
   unfold PB;rw [A5d]
  have f1:PB n m [] (sX t s mst) a i=(List.range a).map (λb=>(List.range m).map (sX t s mst b))++((List.range i).map (sX t s mst a)++[]::List.replicate (m-(i+1)) [])::List.replicate (n-(a+1)) []:=by
   unfold PB;rw [A86 om]
  have f2:PB n m [] (aX t s mst) a i=(List.range a).map (λb=>(List.range m).map (aX t s mst b))++((List.range i).map (aX t s mst a)++[]::List.replicate (m-(i+1)) [])::List.replicate (n-(a+1)) []:=by
   unfold PB;rw [A86 om]
  by_cases e:(gX s a i).Kind=3
  ·rw [Au (by simpa using e),Vw,u a i e,sb,Au (by rfl),f2,T9 c,T9 d,Tl d,Tl c];have o:=A6d (t:=t) (x:=gX s a i) (m:=mst);have h4:=A5l (F:=F) (a:Int) (PB n m [] (sX t s mst) a i) (i:Int) (H8 F (pt t) mst (a:Int) k7 (s.Rays.getD a []) N) (gl t (gX s a i) mst,true) (by simp only;omega)
    ((List.range a).map (λb=>(List.range m).map (aX t s mst b))++((List.range i).map (aX t s mst a)++gl t (gX s a i) mst::List.replicate (m-(i+1)) [])::List.replicate (n-(a+1)) []) (gl t (gX s a i) mst).length F 0 [] sm om (by simp;omega)
   refine Eq.trans h4 ?_;obtain ⟨g1,g2,g3⟩:=A35 (t:=t) (x:=gX s a i) hm;unfold Ml Kl;rw [f1,T9 f,List.drop_zero,List.nil_append,Zz k g2 (λp r=>by have:=g3 p r;have:=g2 p r;unfold spB;omega) (by rw [List.length_map];omega),sb,T9 g,Tl g,Tl f,ckb om];have s1:sX t s mst a i=un ((gl t (gX s a i) mst).map (·.Speed)):=by unfold sX;rw [if_pos e]
   have s2:aX t s mst a i=gl t (gX s a i) mst:=by unfold aX;rw [if_pos e]
   rw [e1,e2,s1,s2] at ihh;exact ihh
  ·rw [B8 (by simpa using e)];unfold Kl;rw [ckb om];have s1:sX t s mst a i=[]:=by unfold sX;rw [if_neg e]
   have s2:aX t s mst a i=[]:=by unfold aX;rw [if_neg e]
   rw [e1,e2,s1,s2,←f1,←f2] at ihh;exact ihh
theorem A9m (i:FF<=F) (k:A7a F t s mst) (hm:1<=mst/\mst<=200000) (o:s.Rays.length=n) (hn:n<=1000) (f:m<=1000) (hr:∀a<n,(s.Rays.getD a []).length=m):∀(q N a:Nat),a+q=n->q<N ->
  H7 F (pt t) s mst jp br N (PA n m (sX t s mst) a) (PA n m (aX t s mst) a) (a:Int)=Ni F s jp br (SX t s mst n m) ((List.range n).map λa=>(List.range m).map (aX t s mst a)):=by
 have g:=i;unfold FF at g;intro q
 induction q with
 | zero =>
  intro N a hi l;obtain ⟨N,rfl⟩:∃N',N=N'+1:=⟨N-1,om⟩;obtain rfl:a=n:=om
  show Jz F (pt t) s mst jp br (H7 F (pt t) s mst jp br N) _ _ (a:Int)=_;unfold Jz;rw [Au (by simp;omega),A5w,A5w];rfl
 | succ q ih =>
  intro N a hi l;obtain ⟨N,rfl⟩:∃N',N=N'+1:=⟨N-1,om⟩;show Jz F (pt t) s mst jp br (H7 F (pt t) s mst jp br N) _ _ (a:Int)=_;unfold Jz;have d:=hr a om;have e:((List.range a).map (λb=>(List.range m).map (sX t s mst b))).length=a:=by simp
  have c:((List.range a).map (λb=>(List.range m).map (aX t s mst b))).length=a:=by simp
  rw [B8 (by simp;omega),J3 [] om,Int.toNat_natCast,d,mkb om om,B01 (by omega:a<n),T9 e,mkb om om,Tl e,B01 (by omega:a<n),T9 c,Tl c];have j:=A6c i k hm (by omega:a<n) hn f d (H7 F (pt t) s mst jp br N) m F 0 om om;have e1:PB n m [] (sX t s mst) a 0=(List.range a).map (λb=>(List.range m).map (sX t s mst b))++List.replicate m []::List.replicate (n-(a+1)) []:=by simp [PB]
  have e2:PB n m [] (aX t s mst) a 0=(List.range a).map (λb=>(List.range m).map (aX t s mst b))++List.replicate m []::List.replicate (n-(a+1)) []:=by simp [PB]
  rw [e1,e2] at j;refine Eq.trans j ?_;exact ih N (a+1) om om
end
section
variable {s:zJ} {mst:Int}
def oX (t:zH) (s:zJ) (mst:Int) (G:Rays) (a i:Nat):zK:=if (gX s a i).Kind=3 then A2w (gl t (gX s a i) mst) (gf G (a,i)) else ⟨1,[]⟩
def AX (t:zH) (s:zJ) (mst:Int) (n m:Nat):List (List (List zF)):=(List.range n).map λa=>(List.range m).map (aX t s mst a)
theorem B03 (f:Nat->Nat->α) (k:List α->Option β):(Av (PC n m f a i) (a:Int)).bind k=k ((List.range i).map (f a)):=by
 unfold PC;exact T9 sm k
theorem B6l (f:Nat->Nat->α) (k:List (List α)->Option β):(Ka (PC n m f a i) (a:Int) ((List.range i).map (f a)++[f a i])).bind k=k (PC n m f a (i+1)):=by
 unfold PC;rw [Tl sm,List.range_succ,List.map_append];rfl
theorem A9k (k:FF<=F) (hm:1<=mst/\mst<=200000) (l:AllG G) (e:Shape G n m) (d:a<n) (hn:n<=1000) (p:m<=1000) (hr:(s.Rays.getD a []).length=m)
  (k3:Int->List (List zK)->Option (List (List zK)×Int)):∀(q N i:Nat),i+q=m->q<N ->
  H6 F (AX t s mst n m) G (a:Int) k3 (s.Rays.getD a []) N (i:Int) (PC n m (oX t s mst G) a i)=k3 ((a+1:Nat):Int) (PA n m (oX t s mst G) (a+1)):=by
 intro q
 induction q with
 | zero =>
  intro N i hi r;obtain ⟨N,rfl⟩:∃N',N=N'+1:=⟨N-1,om⟩;obtain rfl:i=m:=om
  show Jy F (AX t s mst n i) G (a:Int) k3 (s.Rays.getD a []) (H6 F (AX t s mst n i) G (a:Int) k3 (s.Rays.getD a []) N) (i:Int) _=_;unfold Jy Qn;rw [Au (decide_eq_false om),ckb om,B6k d];rfl
 | succ q ih =>
  intro N i hi r;obtain ⟨N,rfl⟩:∃N',N=N'+1:=⟨N-1,om⟩;show Jy F (AX t s mst n m) G (a:Int) k3 (s.Rays.getD a []) (H6 F (AX t s mst n m) G (a:Int) k3 (s.Rays.getD a []) N) (i:Int) _=_;unfold Jy;have u:(s.Rays.getD a []).getD i default=gX s a i:=rfl;have ihh:=ih N (i+1) om om;rw [Int.natCast_add] at ihh;have f:∀(o:zK),o=oX t s mst G a i->Lr (a:Int) (i:Int) (PC n m (oX t s mst G) a i) (H6 F (AX t s mst n m) G (a:Int) k3 (s.Rays.getD a []) N) o.State o.Guesses=k3 ((a+1:Nat):Int) (PA n m (oX t s mst G) (a+1)):=by
   rintro o rfl;unfold Lr;rw [B03,R9 (by simp;omega),B03];refine Eq.trans (B6l (oX t s mst G) _) ?_;rw [ckb om];exact ihh
  rw [B8 (decide_eq_true om),J3 default om,Int.toNat_natCast,u]
  by_cases b:(gX s a i).Kind=3
  ·have c:=e.row d;have j:=A6d (t:=t) (x:=gX s a i) (m:=mst);rw [B8 (by simpa using b),AX,W5 d,Ss (by omega:i<m),J3 [] (by rw [e.1];omega),Int.toNat_natCast,J3 [] (by rw [c];omega),Int.toNat_natCast];have e1:aX t s mst a i=gl t (gX s a i) mst:=by unfold aX;rw [if_pos b]
   have e2:(G.getD a []).getD i []=gf G (a,i):=rfl;rw [e1,e2,B4l k (l.good (a,i)) om (λg v=>(A4v v).1),sb];exact f _ (by unfold oX;rw [if_pos b])
  ·rw [Au (by simpa using b)];exact f ⟨1,[]⟩ (by unfold oX;rw [if_neg b])
theorem B2l (d:FF<=F) (hm:1<=mst/\mst<=200000) (e:AllG G) (f:Shape G n m) (i:s.Rays.length=n) (hn:n<=1000) (b:m<=1000) (hr:∀a<n,(s.Rays.getD a []).length=m):∀(q N a:Nat),a+q=n->q<N ->
  H5 F s (AX t s mst n m) G N (a:Int) (PA n m (oX t s mst G) a)=some ((List.range n).map λa=>(List.range m).map (oX t s mst G a),0):=by
 have c:=d;unfold FF at c;intro q
 induction q with
 | zero =>
  intro N a hi g;obtain ⟨N,rfl⟩:∃N',N=N'+1:=⟨N-1,om⟩;obtain rfl:a=n:=om
  show Jx F s (AX t s mst a m) G (H5 F s (AX t s mst a m) G N) (a:Int) _=_;unfold Jx Qm;rw [Au (decide_eq_false om),A5w]
 | succ q ih =>
  intro N a hi g;obtain ⟨N,rfl⟩:∃N',N=N'+1:=⟨N-1,om⟩;show Jx F s (AX t s mst n m) G (H5 F s (AX t s mst n m) G N) (a:Int) _=_;unfold Jx;rw [B8 (decide_eq_true om),J3 [] om,Int.toNat_natCast,B3o (by omega:a<n)];exact Eq.trans (A9k d hm e f (by omega:a<n) hn b (hr a om) (H5 F s (AX t s mst n m) G N) m F 0 om om) (ih N (a+1) om om)
theorem SX_shape:Shape (SX t s mst n m) n m:=by
 refine ⟨by simp [SX],λr hr=>?_⟩;obtain ⟨a,_,rfl⟩:=List.mem_map.1 hr;simp
theorem B3r (hm:1<=mst/\mst<=200000):AllG (SX t s mst n m):=by
 intro r hr x b;obtain ⟨a,_,rfl⟩:=List.mem_map.1 hr;obtain ⟨i,_,rfl⟩:=List.mem_map.1 b;exact B54 hm a i
theorem A2k (b:p.1<n) (c:p.2<m):gf (SX t s mst n m) p=sX t s mst p.1 p.2:=by
 have e1:(SX t s mst n m).getD p.1 []=(List.range m).map (sX t s mst p.1):=by
  unfold SX;rw [List.getD_eq_getElem?_getD,List.getElem?_map,List.getElem?_range b];rfl
 unfold gf gt;rw [e1,List.getD_eq_getElem?_getD,List.getElem?_map,List.getElem?_range c];rfl
theorem A9y (j:FS<=F) (o:Sq t=0) (p:D3 F s=some 0) (hm:1<=mst/\mst<=200000) (hj:0<=jp/\jp<=400000) (hb:1<=br/\br<=16) (q:A7a F t s mst) (f:s.Rays.length=n) (hn:n<=1000) (c:m<=1000) (hr:∀a<n,(s.Rays.getD a []).length=m) :
  ∃G,Nh F (pt t) s mst jp br=some ((List.range n).map (λa=>(List.range m).map (oX t s mst G a)),0)/\Inv (SX t s mst n m) (LL (SX t s mst n m) br jp) n m G/\Stable (LL (SX t s mst n m) br jp) (gf G):=by
 have d:FF<=F:=by unfold FS at j;unfold FF;omega
 have g:=d;unfold FF at g;obtain ⟨G,g1,g2,g3⟩:=A9o (S:=SX t s mst n m) j SX_shape (B3r hm) hn c hj hb.2;refine ⟨G,?_,g2,g3⟩;have c0:((0:Int) != 0)=false:=rfl;have i:Rf mst=true:=by unfold Rf;simp [hm]
 have e:Je jp br=0:=by
  unfold Je;rw [Au];simp [cond_eq_ite];omega
 have e1:∀{β:Type} (a b:β),(bif !(true:Bool) then a else b)=b:=λ_ _=>rfl;unfold Nh;rw [Wi,sb,o,c0,Au rfl,p,sb,c0,Au rfl,i,e1,e,c0,Au rfl,f,mkb om om,mkb om om];have k:=A9m (jp:=jp) (br:=br) d q hm f hn c hr n F 0 om om;rw [A3a,A3a] at k;refine Eq.trans k ?_;unfold Ni;rw [g1,sb,f,mkb om om];have l:=B2l (t:=t) (mst:=mst) d hm g2.good g2.shape f hn c hr n F 0 om om;rw [A3a] at l;exact l
theorem B1q {set:List zA} (s:Good set) {l:List zF} (t:∀g∈l,g.Speed.Lo<=g.Speed.Hi) {g:zF} (n:g∈l) {v:Int} (u:g.Speed.Lo<=v/\v<=g.Speed.Hi) (o:mem (2*v) set):∃q∈l.filterMap (Xd set),q.Speed.Lo<=v/\v<=q.Speed.Hi:=by
 have d:mem (2*v) (mt set [g.Speed]):=(Xr _ _ _).2 ⟨o,g.Speed,sm,by unfold inS;omega⟩;have b:=Tb set [g.Speed];obtain ⟨p,m,i⟩:=d;have e:0<(mt set [g.Speed]).length:=List.length_pos_of_mem m;generalize r:mt set [g.Speed]=M at *;refine ⟨⟨(g.Whole.1,g.Whole.2),⟨(M.getD 0 default).Lo,(M.getD (M.length-1) default).Hi⟩⟩,List.mem_filterMap.2 ⟨g,n,?_⟩,?_,?_⟩
 ·unfold Xd;rw [r,if_pos e]
 all_goals
  unfold inS at i;obtain ⟨j,hj,c⟩:=List.mem_iff_getElem.1 m;have f:=List.pairwise_iff_getElem.1 b.1;simp only;rw [List.getD_eq_getElem?_getD,List.getElem?_eq_getElem om];simp only [Option.getD_some]
 ·by_cases h0:j=0
  ·subst h0;rw [c];omega
  ·have:=f 0 j om hj om;have k:=b.2 _ (List.getElem_mem (show 0<M.length by omega));rw [c] at this;omega
 ·by_cases h0:j=M.length-1
  ·subst h0;rw [c];omega
  ·have:=f j (M.length-1) hj om om;have k:=b.2 _ (List.getElem_mem (show M.length-1<M.length by omega));rw [c] at this;omega
end
structure Gate (t:zH) (c J:Int) (x:zD) (v:Int):Prop where
 bd:-50000<=v/\v<=50000
 near:c-J/2<=v/\v<=c+J/2
 ok:echoE x=0
 hit:x.Kind=3->turnB (stepOf x 0)=true/\hit t 0 (stepOf x 0) v/\(t.Kind≠1->turnB (stepOf x 1)=true/\hit t 1 (stepOf x 1) v)
section
end
section
variable {X:List (List zD)} {ro g:Int}
def swp (ro g:Int) (X:List (List zD)):zJ:=⟨⟨⟨#[115]⟩,0,0,0,ro,g,500,0⟩,0,0,X⟩
theorem B7x (F:Nat):beam_Name F ⟨#[115]⟩=some true:=by kernel_rfl
theorem B8t (hr:1<=ro/\ro<=3) (b:1<=g/\g<=4):Nd F ⟨⟨#[115]⟩,0,0,0,ro,g,500,0⟩=some 0:=by
 have w1:Bk ro 1 90=true:=by unfold Bk;rw [decide_eq_true om,decide_eq_true om];rfl
 have w2:Bk g 1 200=true:=by unfold Bk;rw [decide_eq_true om,decide_eq_true om];rfl
 unfold Nd;simp only;rw [B7x,sb,Au (by rfl),Au (by rfl),Au (by rfl)];unfold Hl;simp only;rw [w1,w2];rfl
theorem A4p (c:4<=F) (u:List zD) (e:u.length<=1000) (b:∀x∈u,echoE x=0) (x270:Int) (k3:Int->Option Int):∀(q N i:Nat),i+q=u.length->q<N->Ek F x270 k3 u N (i:Int)=Ja x270 k3:=by
 intro q
 induction q with
 | zero =>
  intro N i hi d;obtain ⟨N,rfl⟩:∃N',N=N'+1:=⟨N-1,om⟩;show Ei F x270 k3 u (Ek F x270 k3 u N) (i:Int)=_;unfold Ei;rw [Au (decide_eq_false om)]
 | succ q ih =>
  intro N i hi d;obtain ⟨N,rfl⟩:∃N',N=N'+1:=⟨N-1,om⟩;show Ei F x270 k3 u (Ek F x270 k3 u N) (i:Int)=_;unfold Ei;have hm:u.getD i default∈u:=by rw [List.getD_eq_getElem?_getD,List.getElem?_eq_getElem (by omega:i<u.length)];exact List.getElem_mem _
  rw [B8 (decide_eq_true om),J3 default om,Int.toNat_natCast,Vw,A6p F c,b _ hm,sb,Au (by rfl),ckb om];have:=ih N (i+1) om om;rw [Int.natCast_add] at this;exact this
theorem B07 (e:2000<=F) (f:X.length<=1000) (b:∀r∈X,r.length<=1000/\∀x∈r,echoE x=0):∀(q N i:Nat),i+q=X.length->q<N->Dm F (swp ro g X) N (i:Int)=some 0:=by
 intro q
 induction q with
 | zero =>
  intro N i hi c;obtain ⟨N,rfl⟩:∃N',N=N'+1:=⟨N-1,om⟩;show Eh F (swp ro g X) (Dm F (swp ro g X) N) (i:Int)=_;unfold Eh;have e0:(swp ro g X).Rays=X:=rfl;rw [e0,Au (decide_eq_false (show ¬(i:Int)<(X.length:Int) by omega))];rfl
 | succ q ih =>
  intro N i hi c;obtain ⟨N,rfl⟩:∃N',N=N'+1:=⟨N-1,om⟩;show Eh F (swp ro g X) (Dm F (swp ro g X) N) (i:Int)=_;unfold Eh;have e0:(swp ro g X).Rays=X:=rfl;have hm:X.getD i []∈X:=by rw [List.getD_eq_getElem?_getD,List.getElem?_eq_getElem (by omega:i<X.length)];exact List.getElem_mem _
  rw [e0,B8 (decide_eq_true om),J3 [] om,Int.toNat_natCast];have d:=A4p (F:=F) om (X.getD i []) (b _ hm).1 (b _ hm).2 (i:Int) (Dm F (swp ro g X) N) (X.getD i []).length F 0 om (by have:=(b _ hm).1;omega);refine Eq.trans d ?_;unfold Ja;rw [ckb om];have:=ih N (i+1) om om;rw [Int.natCast_add] at this;exact this
theorem A97 (c:2000<=F) (d:X.length<=1000) (b:∀r∈X,(r.length:Int)=g/\r.length<=1000/\∀x∈r,echoE x=0):∀(q N i:Nat),i+q=X.length->q<N->El F (swp ro g X) N (i:Int)=some 0:=by
 intro q
 induction q with
 | zero =>
  intro N i hi e;obtain ⟨N,rfl⟩:∃N',N=N'+1:=⟨N-1,om⟩;show Ej F (swp ro g X) (El F (swp ro g X) N) (i:Int)=_;unfold Ej;have e0:(swp ro g X).Rays=X:=rfl;rw [e0,Au (decide_eq_false (show ¬(i:Int)<(X.length:Int) by omega))];exact B07 c d (λr hr=>(b r hr).2) X.length F 0 om om
 | succ q ih =>
  intro N i hi e;obtain ⟨N,rfl⟩:∃N',N=N'+1:=⟨N-1,om⟩;show Ej F (swp ro g X) (El F (swp ro g X) N) (i:Int)=_;unfold Ej;have e0:(swp ro g X).Rays=X:=rfl;have e1:(swp ro g X).Site.Gates=g:=rfl;have hm:X.getD i []∈X:=by rw [List.getD_eq_getElem?_getD,List.getElem?_eq_getElem (by omega:i<X.length)];exact List.getElem_mem _
  rw [e0,e1,B8 (decide_eq_true om),J3 [] om,Int.toNat_natCast,(b _ hm).1,Au sm,ckb om];have:=ih N (i+1) om om;rw [Int.natCast_add] at this;exact this
theorem A8o (c:2000<=F) (hr:1<=ro/\ro<=3) (d:1<=g/\g<=4) (e:(X.length:Int)=4*ro) (b:∀r∈X,(r.length:Int)=g/\∀x∈r,echoE x=0):D3 F (swp ro g X)=some 0:=by
 have h:=A97 (ro:=ro) (g:=g) c om (λr hr=>⟨(b r hr).1,by have:=(b r hr).1;omega,(b r hr).2⟩) X.length F 0 om om;unfold D3;have e0:(swp ro g X).Site=⟨⟨#[115]⟩,0,0,0,ro,g,500,0⟩:=rfl;have e1:(swp ro g X).Rays=X:=rfl;have e2:(swp ro g X).Site.Rose=ro:=rfl;rw [e2,e1,e0,B8t hr d,sb,Au (by rfl),Au (by rfl),ckb om,e,Au sm];exact h
end
section
variable {c J:Int} {X:List (List zD)} {V:List (List Int)}
def vX (V:List (List Int)) (a i:Nat):Int:=(V.getD a []).getD i 0
def fX (s:zJ) (V:List (List Int)) (n m:Nat):Fam:=λp=>if p.1<n/\p.2<m/\(gX s p.1 p.2).Kind=3 then [⟨vX V p.1 p.2,vX V p.1 p.2⟩] else []
theorem Zg {s:zJ} :mem z (fX s V n m p)↔(p.1<n/\p.2<m/\(gX s p.1 p.2).Kind=3)/\z=2*vX V p.1 p.2:=by
 unfold fX
 split
 ·rename_i h
  constructor
  ·rintro ⟨q,c,b⟩;simp at c;subst c;unfold inS at b;simp only at b;exact ⟨h,om⟩
  ·rintro ⟨_,b⟩;exact ⟨_,by simp;rfl,by unfold inS;simp only;omega⟩
 ·rename_i h
  constructor
  ·intro hm;exact absurd hm (Rv z)
  ·rintro ⟨d,_⟩;exact absurd d h
theorem B9e (hj:0<=jp) (h:LL S br jp p q d):jp<=d:=by
 rcases h with ⟨_,_,h,rfl⟩|⟨_,_,_,k,b,_,rfl⟩
 ·have c:=h.1;have:=Int.mul_le_mul_of_nonneg_left (show (1:Int)<=(q.2:Int)-p.2 by omega) hj;omega
 ·have c:=b.1;have:=Int.mul_le_mul_of_nonneg_left (show (1:Int)<=(k:Int) by omega) hj;omega
theorem B5y (h:LL S br jp p q d):ne (S.getD p.1 []) p.2=true/\ne (S.getD q.1 []) q.2=true:=by
 rcases h with ⟨c,e,b,f⟩|⟨c,e,b,k,f,g,i⟩
 ·exact ⟨b.2.2.1,by rw [←c];exact b.2.2.2.1⟩
 ·exact ⟨e,by rw [g,←b];exact f.2.2.2.1⟩
theorem A1p {s:zJ} {mst:Int} (b:p.1<n) (c:p.2<m) (h:ne ((SX t s mst n m).getD p.1 []) p.2=true):(gX s p.1 p.2).Kind=3:=by
 have e:gt ((SX t s mst n m).getD p.1 []) p.2=sX t s mst p.1 p.2:=A2k b c;unfold ne at h;rw [e] at h;unfold sX at h
 split at h
 ·assumption
 ·simp at h
theorem B3f {s:zJ} {mst:Int} (r:0<=J) (j:∀a<n,∀i<m,Gate t c J (gX s a i) (vX V a i)) (hm:50000<=mst) (v:Inv (SX t s mst n m) (LL (SX t s mst n m) br J) n m G) (y:a<n) (hi:i<m) (f:(gX s a i).Kind=3):mem (2*vX V a i) (gf G (a,i)):=by
 refine v.most (fX s V n m) ?_ ?_ (a,i) _ (Zg.2 ⟨⟨y,hi,f⟩,rfl⟩)
 ·have key:∀p q d,LL (SX t s mst n m) br J p q d->Supp (fX s V n m) p q d/\Supp (fX s V n m) q p d:=by
   intro p q d h;obtain ⟨i1,i2,i3,i4,_⟩:=A0z SX_shape h;obtain ⟨n1,n2⟩:=B5y h;have k1:=A1p i1 i2 n1;have k2:=A1p i3 i4 n2;have hd:=B9e r h;have b1:=(j p.1 i1 p.2 i2).near;have b2:=(j q.1 i3 q.2 i4).near;constructor
   ·intro z b;obtain ⟨_,rfl⟩:=Zg.1 b;exact ⟨2*vX V p.1 p.2,Zg.2 ⟨⟨i1,i2,k1⟩,rfl⟩,om,om⟩
   ·intro z b;obtain ⟨_,rfl⟩:=Zg.1 b;exact ⟨2*vX V q.1 q.2,Zg.2 ⟨⟨i3,i4,k2⟩,rfl⟩,om,om⟩
  rintro p q d (h|h)
  ·exact (key p q d h).1
  ·exact (key q p d h).2
 ·intro p z b;obtain ⟨⟨l,o,f⟩,rfl⟩:=Zg.1 b;rw [A2k l o];have e:=j p.1 l p.2 o;obtain ⟨_,q1,q2⟩:=e.hit f;obtain ⟨g,g1,g2⟩:=B1e (t:=t) (x:=gX s p.1 p.2) (m:=mst) q1 (λhk=>(q2 hk).2) (by have:=e.bd;omega);have hv:valid ((gl t (gX s p.1 p.2) mst).map (·.Speed)):=by
   intro u hu;obtain ⟨g',k,rfl⟩:=List.mem_map.1 hu;exact (A4v k).1
  unfold sX;rw [if_pos f];exact (Zy hv _).2 ⟨g.Speed,List.mem_map_of_mem g1,by unfold inS;omega⟩
end
end Go.Proofs.YtfkeddejdahnhaaGreatDoor
