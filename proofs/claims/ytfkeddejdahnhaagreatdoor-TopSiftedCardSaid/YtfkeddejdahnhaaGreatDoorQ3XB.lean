import Derived.Test.YtfkeddejdahnhaaGreatDoorQ3XG
set_option linter.unusedVariables false
set_option linter.unusedSimpArgs false
set_option linter.unusedSectionVars false
namespace Go.Proofs.YtfkeddejdahnhaaGreatDoor
open Go Go.RowKit Go.Eng
set_option maxRecDepth 10000
theorem X5 (x:Int):C7 x=x%65536:=by
 unfold C7 A5y;have e:((BitVec.ofInt (IntKind.bits .i64) x &&& BitVec.ofInt (IntKind.bits .i64) 65535).toNat:Int)=x%65536:=by
  have e1:(BitVec.ofInt (IntKind.bits .i64) 65535).toNat=2 ^ 16-1:=by decide
  have e2:(BitVec.ofInt (IntKind.bits .i64) x).toNat=(x%18446744073709551616).toNat:=BitVec.toNat_ofInt ..;rw [BitVec.toNat_and,e1,Nat.and_two_pow_sub_one_eq_mod,e2];omega
 rw [e];exact Go.Eng.wrap64 ⟨om,om⟩
theorem Xn (x:Int):∀l:List Int,(A0i x l).Perm (x::l)
 | []=>.refl _
 | y::l=>by
  unfold A0i
  cases decide (x<=y) with
  | true=>exact .refl _
  | false=>exact ((Xn x l).cons y).trans (.swap x y l)
theorem Wm:∀l:List Int,(sortI l).Perm l
 | []=>.refl _
 | x::l=>(Xn x (sortI l)).trans ((Wm l).cons x)
theorem Yr (x:Int):∀l:List Int,l.Pairwise (·<=·)->(A0i x l).Pairwise (·<=·)
 | [],_=>by unfold A0i;simp
 | y::l,h=>by
  have c:=List.pairwise_cons.1 h;unfold A0i
  cases hd:decide (x<=y) with
  | true =>
   have:=of_decide_eq_true hd;refine List.pairwise_cons.2 ⟨λz b=>?_,h⟩;rcases List.mem_cons.1 b with rfl|b
   ·exact this
   ·have:=c.1 z b;omega
  | false =>
   have:=of_decide_eq_false hd;refine List.pairwise_cons.2 ⟨λz b=>?_,Yr x l c.2⟩;rcases List.mem_cons.1 ((Xn x l).mem_iff.1 b) with rfl|b
   ·omega
   ·exact c.1 z b
theorem Xj:∀l:List Int,(sortI l).Pairwise (·<=·)
 | []=>.nil
 | x::l=>Yr x _ (Xj l)
theorem Zc:∀(l:List Int) (x:Int),(Xl x l).length<=l.length
 | [],_=>Nat.le_refl _
 | y::l,x=>by
  unfold Xl
  cases (y==x) with
  | true=>exact Nat.le_trans (Zc l y) (Nat.le_succ _)
  | false=>exact Nat.succ_le_succ (Zc l y)
theorem A8q:∀l:List Int,(S5 l).length<=l.length
 | []=>Nat.le_refl _
 | x::l=>Nat.succ_le_succ (Zc l x)
theorem A16 (y:Int):∀(l:List Int) (x:Int),y∈x::Xl x l↔y∈x::l
 | [],x=>Iff.rfl
 | z::l,x=>by
  unfold Xl;have ih:=A16 y l z
  cases h:(z==x) with
  | true =>
   have:=eq_of_beq h;subst this;show y∈z::Xl z l↔_;rw [ih];simp
  | false =>
   show y∈x::z::Xl z l↔y∈x::z::l;rw [List.mem_cons,ih,←List.mem_cons]
theorem B0q (y:Int):∀l:List Int,y∈S5 l↔y∈l
 | []=>Iff.rfl
 | x::l=>A16 y l x
theorem A4n:∀(l:List Int) (x:Int),(x::l).Pairwise (·<=·)->(x::Xl x l).Pairwise (· < ·)
 | [],x,_=>List.pairwise_singleton ..
 | z::l,x,h=>by
  have b:=List.pairwise_cons.1 h;have f:=List.pairwise_cons.1 b.2;have i:=b.1 z (List.mem_cons_self ..);unfold Xl;have ih:=A4n l z b.2
  cases c:(z==x) with
  | true =>
   have:=eq_of_beq c;subst this;exact ih
  | false =>
   have g:z≠x:=λe=>by rw [e] at c;simp at c
   refine List.pairwise_cons.2 ⟨λy d=>?_,ih⟩;rcases List.mem_cons.1 ((A16 y l z).1 d) with rfl|d
   ·omega
   ·have:=f.1 y d;omega
theorem B0o:∀l:List Int,l.Pairwise (·<=·)->(S5 l).Pairwise (· < ·)
 | [],_=>.nil
 | x::l,h=>A4n l x h
def gI (l:List Int) (i:Nat):Int:=l.getD i 0
theorem U4 {l:List Int} {i:Nat} (h:i<l.length):gI l i∈l:=by
 unfold gI;rw [List.getD_eq_getElem?_getD,List.getElem?_eq_getElem h];exact List.getElem_mem _
theorem Zb {l:List Int} (h:l.Pairwise (· < ·)) {i j:Nat} (b:i<j) (hj:j<l.length):gI l i<gI l j:=by
 have:=List.pairwise_iff_getElem.1 h i j om hj b;unfold gI;rw [List.getD_eq_getElem?_getD,List.getD_eq_getElem?_getD,List.getElem?_eq_getElem om,List.getElem?_eq_getElem hj];exact this
theorem gap {l:List Int} (h:l.Pairwise (· < ·)) (hb:∀x∈l,0<=x/\x<65536) {i:Nat} (hi:i<l.length) {x:Int} (f:x∈l):(x-gI l i)%65536<=(gI l ((i+l.length-1)%l.length)-gI l i)%65536:=by
 obtain ⟨j,hj,rfl⟩:∃j,j<l.length/\gI l j=x:=by
  obtain ⟨j,hj,e⟩:=List.mem_iff_getElem.1 f;exact ⟨j,hj,by unfold gI;rw [List.getD_eq_getElem?_getD,List.getElem?_eq_getElem hj];exact e⟩
 have b1:=hb _ (U4 hi);have b2:=hb _ (U4 hj);rcases Nat.eq_zero_or_pos i with rfl|h0
 ·have e:(0+l.length-1)%l.length=l.length-1:=by rw [Nat.zero_add];exact Nat.mod_eq_of_lt om
  rw [e];have b3:=hb _ (U4 (l:=l) (i:=l.length-1) om);have d:gI l 0<=gI l j:=by
   rcases Nat.eq_zero_or_pos j with rfl|d
   ·exact Int.le_refl _
   ·exact Int.le_of_lt (Zb h d hj)
  have c:gI l j<=gI l (l.length-1):=by
   rcases Nat.lt_or_ge j (l.length-1) with c|c
   ·exact Int.le_of_lt (Zb h c om)
   ·rw [show j=l.length-1 by omega];exact Int.le_refl _
  omega
 ·have e:(i+l.length-1)%l.length=i-1:=by rw [show i+l.length-1=i-1+l.length by omega,Nat.add_mod_right];exact Nat.mod_eq_of_lt om
  rw [e];have b3:=hb _ (U4 (l:=l) (i:=i-1) om);have d:gI l (i-1)<gI l i:=Zb h om hi;rcases Nat.lt_or_ge j i with c|c
  ·have b:gI l j<=gI l (i-1):=by
    rcases Nat.lt_or_ge j (i-1) with b|b
    ·exact Int.le_of_lt (Zb h b om)
    ·rw [show j=i-1 by omega];exact Int.le_refl _
   have g:gI l j<gI l i:=Zb h c hi;omega
  ·have b:gI l i<=gI l j:=by
    rcases Nat.eq_or_lt_of_le c with b|b
    ·rw [b];exact Int.le_refl _
    ·exact Int.le_of_lt (Zb h b hj)
   omega
def lift (base:Int) (l:List Int):List Int:=l.map λd=>base+(d-base)%65536
section
variable {F:Nat} {p:List Int} {b w:Int}
theorem B39 (g:p.length<=1000) (hb:∀x∈p,0<=x/\x<65536) (c:0<=b/\b<65536):∀(q N i:Nat) (s:Int),i+q=p.length->q<N->0<=s/\s<=131072*(i:Int)->K9 p b w N s (i:Int)=some ⟨b,w,s+(lift b (p.drop i)).sum,p.length⟩:=by
 intro q
 induction q with
 | zero =>
  intro N i s hi d e;obtain ⟨N,rfl⟩:∃N',N=N'+1:=⟨N-1,om⟩;show K7 p b w (K9 p b w N) s (i:Int)=_;unfold K7;rw [Au (decide_eq_false om),List.drop_eq_nil_of_le om];simp [lift,Qv]
 | succ q ih =>
  intro N i s hi d e;obtain ⟨N,rfl⟩:∃N',N=N'+1:=⟨N-1,om⟩;have hm:p.getD i 0∈p:=U4 om;have j:=hb _ hm;have k:=Int.emod_nonneg (p.getD i 0-b) (show (65536:Int)≠0 by decide);have f:=Int.emod_lt_of_pos (p.getD i 0-b) (show (0:Int)<65536 by decide);have:=ih N (i+1) (s+(b+(p.getD i 0-b)%65536)) om om om;rw [Int.natCast_add] at this;rw [G7 (i:=i) om 0];show K7 p b w (K9 p b w N) s (i:Int)=_;unfold K7;rw [B8 (decide_eq_true om),J3 0 om,Int.toNat_natCast,ckb om,X5,ckb om,ckb om,ckb om];refine Eq.trans this ?_;simp only [lift,List.map_cons,List.sum_cons];rw [Int.add_assoc s]
structure ArcOk (p:List Int) (a:zT):Prop where
 base:0<=a.base/\a.base<65536
 width:0<=a.width/\a.width<65536
 all:∀d∈p,(d-a.base)%65536<=a.width
 sum:a.sum=(lift a.base p).sum
 count:a.count=p.length
theorem B17 (hF:3000<=F) (t:p.length<=1000) (hb:∀x∈p,0<=x/\x<65536) {y:List Int} (u:y.Pairwise (· < ·)) (hm:∀x,x∈y↔x∈p) (hl:y.length<=1000) (h0:p≠[]) :
  ∀(q N i:Nat) (b w:Int),i+q=y.length->q<N->(0<=b/\b<65536)->((i=0/\w=65536)\/(0<=w/\w<65536/\∀d∈p,(d-b)%65536<=w))->∃a,Hf F p y N b w (i:Int)=some a/\ArcOk p a:=by
 have e:∀x∈y,0<=x/\x<65536:=λx g=>hb x ((hm x).1 g);have j:0<y.length:=by
  obtain ⟨x,g⟩:=List.exists_mem_of_ne_nil p h0;exact List.length_pos_of_mem ((hm x).2 g)
 intro q
 induction q with
 | zero =>
  intro N i b w hi v c k;obtain ⟨N,rfl⟩:∃N',N=N'+1:=⟨N-1,om⟩;obtain ⟨w1,w2,w3⟩:0<=w/\w<65536/\∀d∈p,(d-b)%65536<=w:=by
   rcases k with ⟨f,_⟩|f
   ·omega
   ·exact f
  refine ⟨⟨b,w,0+(lift b (p.drop 0)).sum,p.length⟩,?_,⟨c,⟨w1,w2⟩,w3,sm,rfl⟩⟩;show K8 F p y (Hf F p y N) b w (i:Int)=_;unfold K8;rw [Au (decide_eq_false om)];exact B39 t hb c p.length F 0 0 om om om
 | succ q ih =>
  intro N i b w hi v c k;obtain ⟨N,rfl⟩:∃N',N=N'+1:=⟨N-1,om⟩;have m:(i+y.length-1)%y.length<y.length:=Nat.mod_lt _ j;have b1:=e _ (U4 (l:=y) (i:=i) om);have b2:=e _ (U4 m);have z:∀d∈p,(d-gI y i)%65536<=(gI y ((i+y.length-1)%y.length)-gI y i)%65536:=λd hd=>gap u e om ((hm d).2 hd);have n:=Int.emod_nonneg (gI y ((i+y.length-1)%y.length)-gI y i) (show (65536:Int)≠0 by decide);have o:=Int.emod_lt_of_pos (gI y ((i+y.length-1)%y.length)-gI y i) (show (0:Int)<65536 by decide);have e0:Hf F p y (N+1) b w (i:Int)=K8 F p y (Hf F p y N) b w (i:Int):=rfl;rw [e0];unfold K8 No;have e2:y.getD ((i+y.length-1)%y.length) 0=gI y ((i+y.length-1)%y.length):=rfl;have e3:y.getD i 0=gI y i:=rfl;have e1:(i:Int)+(y.length:Int)-1=((i+y.length-1:Nat):Int):=om
  rw [B8 (decide_eq_true om),J3 0 om,Int.toNat_natCast,ckb om,ckb om,e1,Tv om om,sb,←Int.natCast_emod,J3 0 om,Int.toNat_natCast,ckb om,X5];rw [e2,e3]
  by_cases s:(gI y ((i+y.length-1)%y.length)-gI y i)%65536<w
  ·rw [B8 (decide_eq_true s),ckb om];have:=ih N (i+1) (gI y i) _ om om b1 (.inr ⟨n,o,z⟩);rw [Int.natCast_add] at this;exact this
  ·rw [Au (decide_eq_false s),ckb om];have r:0<=w/\w<65536/\∀d∈p,(d-b)%65536<=w:=by
    rcases k with ⟨_,f⟩|f
    ·omega
    ·exact f
   have:=ih N (i+1) b w om om c (.inr r);rw [Int.natCast_add] at this;exact this
theorem B6t (c:3000<=F) (h0:p≠[]) (d:p.length<=1000) (hb:∀x∈p,0<=x/\x<65536):∃a,M7 F p=some a/\ArcOk p a:=by
 have b:(sortI p).length=p.length:=(Wm p).length_eq;have e:=A8q (sortI p);obtain ⟨a,f,g⟩:=B17 (F:=F) c d hb (B0o _ (Xj p)) (λx=>(B0q x _).trans (Wm p).mem_iff) om h0 (S5 (sortI p)).length F 0 0 65536 om om om (.inl ⟨rfl,rfl⟩);refine ⟨a,?_,g⟩;unfold M7 R7 Q5;rw [if_pos om,sb,if_pos om,sb];exact f
end
theorem A7w {b:Int} (hb:0<=b/\b<65536):∀l:List Int,0<=(lift b l).sum/\(lift b l).sum<=131072*(l.length:Int)
 | []=>by simp [lift]
 | x::l=>by
  have ih:=A7w hb l;unfold lift at *;simp only [List.map_cons,List.sum_cons,List.length_cons];omega
theorem A5q {F:Nat} {p:List Int} {a:zT} (h:ArcOk p a) {e:Int} (he:0<=e/\e<=5000) (b:p.length<=1000):Ch F a e=some (decide (p.length=0)||decide (a.width+4*e<32768)):=by
 have c:=h.width;have d:=h.count;unfold Ch
 by_cases h0:a.count=0
 ·have e0:(a.count==0)=true:=by simp [h0]
  have e1:decide (p.length=0)=true:=decide_eq_true om;rw [gdF (by rw [e0];rfl),sb,gdF (by rw [e0];rfl),sb,B8 e0,e1];rfl
 ·have e0:(a.count==0)=false:=by simp [h0]
  have e1:decide (p.length=0)=false:=decide_eq_false om;rw [gdT (by rw [e0];rfl),ckb om,gdT (by rw [e0];rfl),ckb om,Au e0,e1];rfl
theorem A7z {F:Nat} {p:List Int} {a:zT} (h:ArcOk p a) (h0:0<p.length) (g:p.length<=1000) {S:Int} (i:0<=S/\S<=802*(p.length:Int)) :
  ∃s j,Ev F a S=some s/\turnB s=true/\(s.Lo-65536*j)*p.length<=a.sum-S/\a.sum+S<=(s.Hi-65536*j)*p.length:=by
 have hb:=A7w h.base p;rw [←h.sum] at hb;have f:=h.count;have b:0<a.count:=om
 obtain ⟨lo,c⟩:∃lo,(a.sum-S)/a.count=lo:=⟨_,rfl⟩;obtain ⟨hi,d⟩:∃hi,-(-(a.sum+S)/a.count)=hi:=⟨_,rfl⟩;have b1:=A3l (x:=a.sum-S) (y:=a.count) om b;have b2:=A3l (x:=-(a.sum+S)) (y:=a.count) om b;have m1:lo*a.count<=a.sum-S:=by rw [←c];exact Int.ediv_mul_le _ om
 have m2:a.sum-S<(lo+1)*a.count:=by rw [←c];exact Int.lt_ediv_add_one_mul_self _ b
 have m3:(-hi)*a.count<=-(a.sum+S):=by rw [←d,Int.neg_neg];exact Int.ediv_mul_le _ om
 have m4:-(a.sum+S)<(-hi+1)*a.count:=by rw [←d,Int.neg_neg];exact Int.lt_ediv_add_one_mul_self _ b
 rw [Int.neg_mul] at m3;rw [Int.add_mul,Int.one_mul] at m2;rw [Int.add_mul,Int.neg_mul,Int.one_mul] at m4;have l1:lo<=200000:=by
  apply Int.le_of_mul_le_mul_right _ b;have:(200000:Int)*a.count=200000*a.count:=rfl;omega
 have l2:-2000<=lo:=by
  apply Int.le_of_mul_le_mul_right _ b;omega
 have l3:hi-lo<=1606:=by
  apply Int.le_of_mul_le_mul_right _ b;rw [Int.sub_mul];omega
 have l4:lo<=hi:=by
  apply Int.le_of_mul_le_mul_right _ b;omega
 refine ⟨⟨(lo+32768)%65536-32768,(lo+32768)%65536-32768+hi-lo⟩,-((lo+32768)/65536),?_,?_,?_,?_⟩
 ·unfold Ev;rw [Au (by simp;omega),ckb om,Rd F om b,sb,ckb om,Un F om b,sb,c,d,ckb om,X5,ckb om,ckb om,ckb om]
 ·unfold turnB;apply decide_eq_true;simp only;omega
 ·have e:(lo+32768)%65536-32768-65536 * -((lo+32768)/65536)=lo:=om
  simp only;rw [e,←f];exact m1
 ·have e:(lo+32768)%65536-32768+hi-lo-65536 * -((lo+32768)/65536)=hi:=om
  simp only;rw [e,←f];omega
def stP (Q:Nat->Int) (i:Nat):Int:=(Q (i+1)-Q i)%65536
section
variable {Q δ:Nat->Int} {I:List Nat} {D NT e:Int}
theorem B5i (h:∀i∈I,D*(Q (i+1)-Q i)=NT+δ i) (g:Nat->Int) (c:Int) (b:∀i∈I,g i=Q (i+1)-Q i+c):D*(I.map g).sum=(I.map δ).sum+(NT+D*c)*(I.length:Int):=by
 induction I with
 | nil=>simp
 | cons i I ih =>
  have d:=h i (List.mem_cons_self ..);have e:=ih (λj hj=>h j (List.mem_cons_of_mem _ hj)) (λj hj=>b j (List.mem_cons_of_mem _ hj));rw [List.map_cons,List.sum_cons,List.map_cons,List.sum_cons,b i (List.mem_cons_self ..),List.length_cons,Int.mul_add,e,Int.mul_add,d,Int.natCast_add,Int.mul_add];simp only [Int.natCast_one,Int.mul_one];omega
theorem B09 {a:zT} (f:0<D) (he:0<=e) (h:∀i∈I,D*(Q (i+1)-Q i)=NT+δ i/\-(2*e*D)<δ i/\δ i<2*e*D) (h0:I≠[]) (c:ArcOk (I.map (stP Q)) a) (m:a.width+4*e<32768) :
  ∃k,D*a.sum=(I.map δ).sum+(NT+D*(65536*k))*(I.length:Int):=by
 have hb:=c.base;have g:∀i∈I,(stP Q i-a.base)%65536<=a.width:=λi hi=>c.all _ (List.mem_map_of_mem hi);obtain ⟨i0,b⟩:=List.exists_mem_of_ne_nil I h0;obtain ⟨k,n⟩:∃k,a.base+(stP Q i0-a.base)%65536=Q (i0+1)-Q i0+65536*k:=⟨(a.base+(stP Q i0-a.base)%65536-(Q (i0+1)-Q i0))/65536,by unfold stP;omega⟩;refine ⟨k,?_⟩;rw [c.sum];unfold lift;rw [List.map_map];refine B5i (λi hi=>(h i hi).1) _ _ λi hi=>?_;show a.base+(stP Q i-a.base)%65536=_;obtain ⟨j,o,p⟩:=h i hi;obtain ⟨l,q,r⟩:=h i0 b;have d1:Q (i+1)-Q i-(Q (i0+1)-Q i0)<4*e:=by
  apply Int.lt_of_mul_lt_mul_left _ (Int.le_of_lt f);rw [Int.mul_sub,j,l,show D*(4*e)=2*e*D+2*e*D by grind];omega
 have d2:Q (i0+1)-Q i0-(Q (i+1)-Q i)<4*e:=by
  apply Int.lt_of_mul_lt_mul_left _ (Int.le_of_lt f);rw [Int.mul_sub,j,l,show D*(4*e)=2*e*D+2*e*D by grind];omega
 have x1:=g i hi;have x2:=g i0 b;obtain ⟨k',d⟩:∃k',a.base+(stP Q i-a.base)%65536=Q (i+1)-Q i+65536*k':=⟨(a.base+(stP Q i-a.base)%65536-(Q (i+1)-Q i))/65536,by unfold stP;omega⟩;have:k'=k:=om
 rw [d,this]
theorem A9f {F:Nat} {a:zT} (b:0<D) (he:0<=e) (h:∀i∈I,D*(Q (i+1)-Q i)=NT+δ i/\-(2*e*D)<δ i/\δ i<2*e*D) (h0:I≠[]) (m:I.length<=1000) (d:ArcOk (I.map (stP Q)) a) (g:a.width+4*e<32768)
  {S:Int} (n:0<=S/\S<=802*(I.length:Int)) (o:-(D*S)<=(I.map δ).sum/\(I.map δ).sum<=D*S):∃s K,Ev F a S=some s/\turnB s=true/\D*(s.Lo-65536*K)<=NT/\NT<=D*(s.Hi-65536*K):=by
 obtain ⟨k,f⟩:=B09 b he h h0 d g;have l:0<I.length:=List.length_pos_iff.2 h0;have el:(I.map (stP Q)).length=I.length:=List.length_map ..;obtain ⟨s,j,s1,s2,s3,s4⟩:=A7z (F:=F) d om om (S:=S) om;rw [el] at s3 s4;refine ⟨s,j+k,s1,s2,?_,?_⟩
 ·have c:D*(s.Lo-65536*j)*(I.length:Int)<=(NT+D*(65536*k))*(I.length:Int):=by
   have:=Int.mul_le_mul_of_nonneg_left s3 (Int.le_of_lt b);rw [Int.mul_sub,f] at this;have e1:D*((s.Lo-65536*j)*(I.length:Int))=D*(s.Lo-65536*j)*(I.length:Int):=by grind
   omega
  have:=Int.le_of_mul_le_mul_right c om;rw [show s.Lo-65536*(j+k)=s.Lo-65536*j-65536*k by omega,Int.mul_sub];omega
 ·have c:(NT+D*(65536*k))*(I.length:Int)<=D*(s.Hi-65536*j)*(I.length:Int):=by
   have:=Int.mul_le_mul_of_nonneg_left s4 (Int.le_of_lt b);rw [Int.mul_add,f] at this;have e1:D*((s.Hi-65536*j)*(I.length:Int))=D*(s.Hi-65536*j)*(I.length:Int):=by grind
   omega
  have:=Int.le_of_mul_le_mul_right c om;rw [show s.Hi-65536*(j+k)=s.Hi-65536*j-65536*k by omega,Int.mul_sub];omega
end
def hitq (t:zH) (w:Int) (s:zA) (num den:Int):Prop:=∃k,-64<=k/\k<=64/\(spd t w s k).Lo*den<=num/\num<=(spd t w s k).Hi*den
theorem B9r {t:zH} {w:Int} {s:zA} {num den K:Int} (b:0<den) (i:0<us t w) (j:0<t.Lambda) (hb:-(4*(den*(500*t.Lambda)))<=num*us t w/\num*us t w<=4*(den*(500*t.Lambda))) (c:turnB s=true)
  (k:den*(500*t.Lambda)*(s.Lo-65536*K)<=num*65536*us t w) (l:num*65536*us t w<=den*(500*t.Lambda)*(s.Hi-65536*K)):hitq t w s num den:=by
 unfold turnB at c;have c:=of_decide_eq_true c;have f:0<den*(500*t.Lambda):=Int.mul_pos b om;have e:num*65536*us t w=65536*(num*us t w):=by grind
 have k1:s.Lo-65536*K<=262144:=by
  apply Int.le_of_mul_le_mul_left _ f;omega
 have k2:-262144<=s.Hi-65536*K:=by
  apply Int.le_of_mul_le_mul_left _ f;omega
 refine ⟨-K,om,om,?_,?_⟩
 ·unfold spd;simp only;have d:500*t.Lambda*(s.Lo + -K*65536)/(65536*us t w)*(65536*us t w)<=500*t.Lambda*(s.Lo + -K*65536):=Int.ediv_mul_le _ om;generalize 500*t.Lambda*(s.Lo + -K*65536)/(65536*us t w)=z at *;apply Int.le_of_mul_le_mul_right _ (show 0<65536*us t w by omega);have g:=Int.mul_le_mul_of_nonneg_left d (Int.le_of_lt b);have e1:den*(500*t.Lambda*(s.Lo + -K*65536))=den*(500*t.Lambda)*(s.Lo-65536*K):=by grind
  have e2:z*den*(65536*us t w)=den*(z*(65536*us t w)):=by grind
  have e3:num*(65536*us t w)=num*65536*us t w:=by grind
  omega
 ·unfold spd;simp only;have d:-(500*t.Lambda*(s.Hi + -K*65536))/(65536*us t w)*(65536*us t w)<=-(500*t.Lambda*(s.Hi + -K*65536)):=Int.ediv_mul_le _ om;generalize -(500*t.Lambda*(s.Hi + -K*65536))/(65536*us t w)=z at *;apply Int.le_of_mul_le_mul_right _ (show 0<65536*us t w by omega);have g:=Int.mul_le_mul_of_nonneg_left d (Int.le_of_lt b);have e1:den * -(500*t.Lambda*(s.Hi + -K*65536))=-(den*(500*t.Lambda)*(s.Hi-65536*K)):=by grind
  have e2:-z*den*(65536*us t w)=-(den*(z*(65536*us t w))):=by grind
  have e3:num*(65536*us t w)=num*65536*us t w:=by grind
  omega
theorem A4x {t:zH} {w:Int} {s:zA} {num den v:Int} (b:0<den) (h:hitq t w s num den) (d:v=num/den\/v=-(-num/den)):hit t w s v:=by
 obtain ⟨k,k1,k2,k3,k4⟩:=h;refine ⟨k,k1,k2,?_,?_⟩
 ·have c:(spd t w s k).Lo<=num/den:=Int.le_ediv_of_mul_le b k3;rcases d with rfl|rfl
  ·exact c
  ·refine Int.le_trans c ?_;have e:-num/den*den<=-num:=Int.ediv_mul_le _ om;have f:num/den*den<=num:=Int.ediv_mul_le _ om;apply Int.le_of_mul_le_mul_right _ b;rw [Int.neg_mul];omega
 ·have c:-(-num/den)<=(spd t w s k).Hi:=by
   have:-(spd t w s k).Hi<=-num/den:=Int.le_ediv_of_mul_le b (by rw [Int.neg_mul];omega);omega
  rcases d with rfl|rfl
  ·refine Int.le_trans ?_ c;have e:-num/den*den<=-num:=Int.ediv_mul_le _ om;have f:num/den*den<=num:=Int.ediv_mul_le _ om;apply Int.le_of_mul_le_mul_right _ b;rw [Int.neg_mul];omega
  ·exact c
def wh (k:Int) (n i:Nat):Int:=if k=2 then (if n/2<=i then 1 else 0) else if k=3 then ((i%2:Nat):Int) else 0
def tau (t:zH) (n:Nat):Nat->Int
 | 0=>0
 | i+1=>tau t n i+us t (wh t.Kind n i)
structure TrB (t:zH) (n:Nat):Prop where
 kd:t.Kind=1\/t.Kind=2\/t.Kind=3
 cn:n=4\/n=6\/n=8\/n=10\/n=12
 ct:t.Count=(n:Int)
 la:60000<=t.Lambda/\t.Lambda<=111000
 fi:400<=t.First/\t.First<=1420
 se:t.Kind=1/\t.Second=0\/t.Kind≠1/\t.First<t.Second/\t.Second<=2441
theorem C0n (k:Int) (n i:Nat):wh k n i=0\/wh k n i=1/\k≠1:=by
 unfold wh
 split
 ·split<;>omega
 ·split<;>omega
section
variable {t:zH} {n:Nat}
theorem TrB.ok (h:TrB t n):Sq t=0:=by
 have b:=h.kd;have c:=h.cn;have d:=h.ct;have e:=h.la;have f:=h.fi;have g:=h.se;unfold Sq;rw [if_neg om,if_pos];unfold X4;apply decide_eq_true;refine ⟨om,om,om,om,om,?_⟩;rcases b with b|b|b
 ·left;omega
 ·right;left;refine ⟨b,?_,om,om,om,om⟩;rw [d];rcases c with rfl|rfl|rfl|rfl|rfl<;>rfl
 ·right;right;omega
theorem TrB.us (h:TrB t n) (i:Nat):400<=us t (wh t.Kind n i)/\us t (wh t.Kind n i)<=2441:=by
 have b:=h.fi;have c:=h.se;unfold Go.Proofs.YtfkeddejdahnhaaGreatDoor.us;rcases C0n t.Kind n i with e|⟨e,e2⟩<;>rw [e]
 ·simp;omega
 ·simp;omega
theorem B3a (h:TrB t n):∀i:Nat,0<=tau t n i/\tau t n i<=2441*(i:Int)
 | 0=>by simp [tau]
 | i+1=>by
  have:=B3a h i;have:=h.us i;unfold tau;omega
def slp (sl:List Int) (e fr:Int) (i:Nat):Int:=if 0<sl.length then sl.getD ((fr.toNat+i)%sl.length) 0%(2*e-1)-(e-1) else 0
def Qf (t:zH) (n:Nat) (num den e:Int) (sl:List Int) (fr:Int) (i:Nat):Int:=num*65536*tau t n i/(den*(500*t.Lambda))+slp sl e fr i
def smB (L:Int) (Q:Nat->Int) (i:Nat):zQ:=⟨L,Q i%65536,L,Q i%65536⟩
theorem B31 {sl:List Int} {e fr:Int} (he:1<=e) (i:Nat):-(e-1)<=slp sl e fr i/\slp sl e fr i<=e-1:=by
 unfold slp
 split
 ·have b:=Int.emod_nonneg (sl.getD ((fr.toNat+i)%sl.length) 0) (show 2*e-1≠0 by omega);have c:=Int.emod_lt_of_pos (sl.getD ((fr.toNat+i)%sl.length) 0) (show 0<2*e-1 by omega);omega
 ·omega
theorem B3p {num den e fr:Int} {sl:List Int} (h:TrB t n) (hd:0<den) (he:1<=e) (i:Nat) :
  -(den*(500*t.Lambda)*e)<den*(500*t.Lambda)*Qf t n num den e sl fr i-num*65536*tau t n i/\den*(500*t.Lambda)*Qf t n num den e sl fr i-num*65536*tau t n i<=den*(500*t.Lambda)*(e-1):=by
 have b:0<den*(500*t.Lambda):=Int.mul_pos hd (by have:=h.la;omega);unfold Qf;generalize num*65536*tau t n i=N;generalize den*(500*t.Lambda)=D at *;have c:=B31 (sl:=sl) (fr:=fr) he i;have g:=Int.mul_ediv_add_emod N D;have j:=Int.emod_nonneg N (show D≠0 by omega);have k:=Int.emod_lt_of_pos N b;have d:=Int.mul_le_mul_of_nonneg_left c.1 (Int.le_of_lt b);have f:=Int.mul_le_mul_of_nonneg_left c.2 (Int.le_of_lt b);rw [Int.mul_neg,Int.mul_sub] at d;rw [Int.mul_sub] at f;rw [Int.mul_add,Int.mul_sub];omega
theorem A6a {F:Nat} {x y:Int} (d:-4000000000000000000<=x/\x<=4000000000000000000) (c:0<y):Sj F x y=some (x/y):=by
 obtain ⟨h,hb⟩:=A3z d c;unfold Sj Jr;rw [h,sb,if_neg om,sb,Y4 x y c]
 by_cases b:x.tmod y<0
 ·rw [if_pos b,B8 (decide_eq_true b),ckb om]
 ·rw [if_neg b,Au (decide_eq_false b)]
theorem B5m (x:Int):-65536<x.tmod 65536/\x.tmod 65536<65536:=by
 have b:=Int.tmod_lt_of_pos x (show (0:Int)<65536 by decide);have:=Int.tmod_lt_of_pos (-x) (show (0:Int)<65536 by decide);rw [Int.neg_tmod] at this;omega
theorem B5o (x:Int):(x.tmod 65536+65536).tmod 65536=x%65536:=by
 have b:=Int.tmod_add_mul_tdiv x 65536;have c:=Int.tmod_lt_of_pos x (show (0:Int)<65536 by decide);have d:-65536<x.tmod 65536:=by
  have:=Int.tmod_lt_of_pos (-x) (show (0:Int)<65536 by decide);rw [Int.neg_tmod] at this;omega
 rw [Int.tmod_eq_emod_of_nonneg om];omega
theorem B6b (x:Int):Jr x 65536=some (x.tmod 65536):=rfl
section
variable {num den L e fr:Int} {sl:List Int} {F:Nat}
theorem A59 (h:TrB t n) (hd:1<=den/\den<=10000) (hn:-(40000*den)<=num/\num<=40000*den) (he:1<=e/\e<=401) (r:0<=fr/\fr<=1000) (s:∀x∈sl,0<=x/\x<=65535) :
  ∀(q N i:Nat),i+q=n->q<N->Jo F t num den L e sl fr N ((List.range i).map (smB L (Qf t n num den e sl fr))) (tau t n i) (i:Int)=some ((List.range n).map (smB L (Qf t n num den e sl fr))):=by
 have u:=h.cn;have v:=h.ct;have hl:=h.la;have c:=h.kd;have z:=h.fi;have b0:=h.se;intro q
 induction q with
 | zero =>
  intro N i hi hN;obtain ⟨N,rfl⟩:∃N',N=N'+1:=⟨N-1,om⟩;show Ll F t num den L e sl fr (Jo F t num den L e sl fr N) ((List.range i).map (smB L (Qf t n num den e sl fr))) (tau t n i) (i:Int)=_;unfold Ll Ry;rw [Au (decide_eq_false om),show i=n by omega]
 | succ q ih =>
  intro N i hi hN;obtain ⟨N,rfl⟩:∃N',N=N'+1:=⟨N-1,om⟩;have d:=B3a h i;have b:=h.us i;have hx:-(40000*10000*65536*30000)<=num*65536*tau t n i/\num*65536*tau t n i<=40000*10000*65536*30000:=by
   have h1:num*65536*tau t n i<=40000*10000*65536*tau t n i:=Int.mul_le_mul_of_nonneg_right om d.1;have h2:-(40000*10000*65536)*tau t n i<=num*65536*tau t n i:=Int.mul_le_mul_of_nonneg_right om d.1;omega
  have hD:den*500*t.Lambda=den*(500*t.Lambda):=Int.mul_assoc ..;have f:0<den*(500*t.Lambda):=Int.mul_pos om om;have b3:den*(500*t.Lambda)<=10000*(500*111000):=Int.mul_le_mul om om om om;obtain ⟨y,l⟩:∃y,num*65536*tau t n i/(den*(500*t.Lambda))=y:=⟨_,rfl⟩;have m:=A3l (x:=num*65536*tau t n i) (y:=den*(500*t.Lambda)) om f;rw [l] at m;have b4:=B31 (sl:=sl) (fr:=fr) (e:=e) he.1 i;have hQ:Qf t n num den e sl fr i=y+slp sl e fr i:=by unfold Qf;rw [l]
  have key:N0 t L ((List.range i).map (smB L (Qf t n num den e sl fr))) (tau t n i) (i:Int) (Jo F t num den L e sl fr N) (y+slp sl e fr i)=some ((List.range n).map (smB L (Qf t n num den e sl fr))):=by
   have h0:=ih N (i+1) om om;rw [Int.natCast_add,List.range_succ,List.map_append] at h0;have eu:tau t n (i+1)=tau t n i+us t (wh t.Kind n i):=rfl;rw [eu] at h0;unfold N0 Pv;rw [B6b,sb,ckb (by have:=B5m (y+slp sl e fr i);omega),B6b,sb,B5o,←hQ,R9 (by simp;omega)];have j:List.map (smB L (Qf t n num den e sl fr)) [i]=[zQ.mk L (Qf t n num den e sl fr i%65536) L (Qf t n num den e sl fr i%65536)]:=rfl;rw [j] at h0;unfold wh at h0 b;rcases c with c|c|c
   ·have e1:(t.Kind==2)=false:=by simp [c]
    have e2:(t.Kind==3)=false:=by simp [c]
    rw [if_neg om,if_neg om] at h0 b;rw [e1,e2,gdF (g:=false==true&&true) rfl,sb,gdF (g:=false==true&&_) rfl,sb,Au (by rfl)];unfold us at h0 b;rw [if_pos rfl] at h0 b;rw [ckb om,ckb om];exact h0
   ·have e1:(t.Kind==2)=true:=by simp [c]
    have e2:(t.Kind==3)=false:=by simp [c]
    have e3:Qy t.Count 2=some ((n/2:Nat):Int):=by
     rw [v];rcases u with rfl|rfl|rfl|rfl|rfl<;>rfl
    rw [if_pos c] at h0 b;rw [e1,e2,gdT (g:=true==true&&true) rfl,e3,sb,gdF (g:=false==true&&_) rfl,sb]
    by_cases p:n/2<=i
    ·rw [if_pos p] at h0 b;rw [B8 (by rw [decide_eq_true (show (i:Int)>=((n/2:Nat):Int) by omega)];rfl)];unfold us at h0 b;rw [if_neg om] at h0 b;rw [ckb om,ckb om];exact h0
    ·rw [if_neg p] at h0 b;rw [Au (by rw [decide_eq_false (show ¬(i:Int)>=((n/2:Nat):Int) by omega)];rfl)];unfold us at h0 b;rw [if_pos rfl] at h0 b;rw [ckb om,ckb om];exact h0
   ·have e1:(t.Kind==2)=false:=by simp [c]
    have e2:(t.Kind==3)=true:=by simp [c]
    have e3:Jr (i:Int) 2=some ((i%2:Nat):Int):=by rw [Tv om om];rfl
    rw [if_neg om,if_pos c] at h0 b;rw [e1,e2,gdF (g:=false==true&&true) rfl,sb,gdT (g:=true==true&&((bif false then _ else false)==false&&true)) rfl,e3,sb];rcases Nat.mod_two_eq_zero_or_one i with hm|hm<;>rw [hm] at h0 b ⊢
    ·rw [Au (by rfl)];unfold us at h0 b;rw [if_pos dc] at h0 b;rw [ckb om,ckb om];exact h0
    ·rw [B8 (by rfl)];unfold us at h0 b;rw [if_neg dc] at h0 b;rw [ckb om,ckb om];exact h0
  show Ll F t num den L e sl fr (Jo F t num den L e sl fr N) ((List.range i).map (smB L (Qf t n num den e sl fr))) (tau t n i) (i:Int)=_;unfold Ll;rw [B8 (decide_eq_true om),ckb om,ckb om,ckb om,hD,ckb om,A6a om f,sb,l]
  by_cases h0:0<sl.length
  ·have em:Jr (fr+(i:Int)) (sl.length:Int)=some (((fr.toNat+i)%sl.length:Nat):Int):=by
    rw [Tv om om,Int.natCast_emod,Int.natCast_add,Int.toNat_of_nonneg r.1]
   have o:(fr.toNat+i)%sl.length<sl.length:=Nat.mod_lt _ h0;have k:sl.getD ((fr.toNat+i)%sl.length) 0∈sl:=U4 o;have hv:=s _ k;have es:slp sl e fr i=sl.getD ((fr.toNat+i)%sl.length) 0%(2*e-1)-(e-1):=by unfold slp;rw [if_pos h0]
   have r1:=Int.emod_nonneg (sl.getD ((fr.toNat+i)%sl.length) 0) (show 2*e-1≠0 by omega);have r2:=Int.emod_lt_of_pos (sl.getD ((fr.toNat+i)%sl.length) 0) (show 0<2*e-1 by omega);rw [B8 (decide_eq_true om),ckb om,em,sb,J3 0 om,Int.toNat_natCast,ckb om,ckb om,ckb om,Tv hv.1 om,sb,ckb om,ckb om,ckb om,←es];exact key
  ·have es:slp sl e fr i=0:=by unfold slp;rw [if_neg h0]
   rw [Au (decide_eq_false om)];rw [es,Int.add_zero] at key;exact key
theorem A9l (h:TrB t n) (d:3000<=F) (hd:1<=den/\den<=10000) (hn:-(40000*den)<=num/\num<=40000*den) (he:1<=e/\e<=401) (b:0<=fr/\fr<=1000) (c:∀x∈sl,0<=x/\x<=65535) :
  Ve F t num den L e sl fr=some ((List.range n).map (smB L (Qf t n num den e sl fr))):=A59 h hd hn he b c n F 0 om (by have:=h.cn;omega)
end
theorem A9u {L:Int} {Q:Nat->Int} (c:0<=L/\L<=1000) (hn:n<=1000):∀(q N i:Nat),i+q=n->q<N->Fk ((List.range n).map (smB L Q)) 0 N ((i:Int)*(L*L)) ((i:Int)*(L*L)) ((i:Int)*(L*L)) (i:Int)=some ((n:Int)*(L*L),(n:Int)*(L*L),(n:Int)*(L*L)):=by
 have b:0<=L*L/\L*L<=1000000:=⟨Int.mul_nonneg c.1 c.1,Int.mul_le_mul c.2 c.2 c.1 om⟩;intro q
 induction q with
 | zero =>
  intro N i hi d;obtain ⟨N,rfl⟩:∃N',N=N'+1:=⟨N-1,om⟩;show Fj _ 0 (Fk _ 0 N) _ _ _ (i:Int)=_;unfold Fj;rw [Au (decide_eq_false (by rw [List.length_map,List.length_range];omega)),show i=n by omega]
 | succ q ih =>
  intro N i hi d;obtain ⟨N,rfl⟩:∃N',N=N'+1:=⟨N-1,om⟩;show Fj _ 0 (Fk _ 0 N) _ _ _ (i:Int)=_;unfold Fj;have hb:0<=(i:Int)*(L*L)/\(i:Int)*(L*L)<=1000*1000000:=⟨Int.mul_nonneg om b.1,Int.mul_le_mul om b.2 b.1 om⟩;have e1:(if L>0 then L else 0)=L:=by split<;>omega
  rw [B8 (decide_eq_true (by rw [List.length_map,List.length_range];omega)),Ss (by omega:i<n)];simp only [smB,Int.add_zero];rw [ckb om,ckb om,e1,ckb om,ckb om,ckb om,ckb om,ckb om,ckb om,ckb om];have:=ih N (i+1) om om;rw [Int.natCast_add,Int.add_mul,Int.natCast_one,Int.one_mul] at this;exact this
theorem B5j {F:Nat} (c:3000<=F) {L:Int} {Q:Nat->Int} (b:0<=L/\L<=1000) (hn:n<=1000):Nm F (0,0,0) ((List.range n).map (smB L Q)) 0=some ((n:Int)*(L*L),(n:Int)*(L*L),(n:Int)*(L*L)):=by
 have:=A9u (Q:=Q) b hn n F 0 om om;simp only [Int.natCast_zero,Int.zero_mul] at this;exact this
def idP (k:Int) (n:Nat) (w:Int) (i:Nat):Bool:=!(decide (k=2/\i+1=n/2))&&decide (wh k n i=w)
def idx (k:Int) (n:Nat) (w:Int):List Nat:=(List.range' 0 (n-1)).filter (idP k n w)
theorem A6z {L:Int} {Q:Nat->Int} (h:TrB t n):∀(q N i:Nat) (A B:List Int),i+q=n-1->q<N->A.length+q<=1000->B.length+q<=1000 ->
  Bz C0 ((List.range n).map (smB L Q)) t ((List.range' 1 (n-1)).map (smB L Q)) N (i:Int) (A,B,0)=some ((A++((List.range' i q).filter (idP t.Kind n 0)).map (stP Q),B++((List.range' i q).filter (idP t.Kind n 1)).map (stP Q),0),true):=by
 have m:=h.cn;have x:=h.ct;have b:=h.kd;intro q
 induction q with
 | zero =>
  intro N i A B hi o p r;obtain ⟨N,rfl⟩:∃N',N=N'+1:=⟨N-1,om⟩;show Dh C0 _ t _ (Bz C0 _ t _ N) (i:Int) (A,B,0)=_;unfold Dh;rw [Au (decide_eq_false (by rw [List.length_map,List.length_range'];omega))];simp
 | succ q ih =>
  intro N i A B hi o p r;obtain ⟨N,rfl⟩:∃N',N=N'+1:=⟨N-1,om⟩;show Dh C0 _ t _ (Bz C0 _ t _ N) (i:Int) (A,B,0)=_;unfold Dh;have el:((((List.range n).map (smB L Q)).length:Nat):Int)=(n:Int):=by rw [List.length_map,List.length_range]
  have eh:Qy (n:Int) 2=some ((n/2:Nat):Int):=by
   rcases m with rfl|rfl|rfl|rfl|rfl<;>rfl
  have eg:((List.range' 1 (n-1)).map (smB L Q)).getD i default=smB L Q (i+1):=by
   rw [List.getD_eq_getElem?_getD,List.getElem?_map,List.getElem?_range' om,Nat.one_mul,Nat.add_comm];rfl
  rw [B8 (decide_eq_true (by rw [List.length_map,List.length_range'];omega)),J3 default (by rw [List.length_map,List.length_range'];omega),Int.toNat_natCast,eg,el,eh];have ewr:C7 ((smB L Q (i+1)).P-(smB L Q i).P)=stP Q i:=by
   rw [X5];unfold smB stP;simp only;omega
  have e:∀j,0<=(smB L Q j).P/\(smB L Q j).P<65536:=λj=>⟨Int.emod_nonneg _ dc,Int.emod_lt_of_pos _ dc⟩;have u:=e (i+1);have v:=e i;have d:∀s,E7 (i:Int) (Bz C0 ((List.range n).map (smB L Q)) t ((List.range' 1 (n-1)).map (smB L Q)) N) s=Bz C0 ((List.range n).map (smB L Q)) t ((List.range' 1 (n-1)).map (smB L Q)) N ((i+1:Nat):Int) s:=by
   intro s;unfold E7;rw [ckb om];rfl
  rw [List.range'_succ];have k0:idP t.Kind n 0 i=true->idP t.Kind n 1 i=false->Cc C0 ((List.range n).map (smB L Q)) (i:Int) (A,B,0) (Bz C0 ((List.range n).map (smB L Q)) t ((List.range' 1 (n-1)).map (smB L Q)) N) (smB L Q (i+1)) 0=some ((A++((i::List.range' (i+1) q).filter (idP t.Kind n 0)).map (stP Q),B++((i::List.range' (i+1) q).filter (idP t.Kind n 1)).map (stP Q),0),true):=by
   intro f g;unfold Cc;rw [Ss (by omega:i<n),ckb om,ewr];have k:C0 (A,B,0) (0,stP Q i)=some ((A++[stP Q i],B,0),true):=by
    unfold C0;rw [B8 (by rfl),R9 (by simp;omega)]
   rw [k,sb,B8 (by rfl),d,List.filter_cons_of_pos f,List.filter_cons_of_neg (by simp [g]),List.map_cons];have:=ih N (i+1) (A++[stP Q i]) B om om (by simp;omega) om;rw [List.append_assoc] at this;exact this
  have k1:idP t.Kind n 0 i=false->idP t.Kind n 1 i=true->Cc C0 ((List.range n).map (smB L Q)) (i:Int) (A,B,0) (Bz C0 ((List.range n).map (smB L Q)) t ((List.range' 1 (n-1)).map (smB L Q)) N) (smB L Q (i+1)) 1=some ((A++((i::List.range' (i+1) q).filter (idP t.Kind n 0)).map (stP Q),B++((i::List.range' (i+1) q).filter (idP t.Kind n 1)).map (stP Q),0),true):=by
   intro f g;unfold Cc;rw [Ss (by omega:i<n),ckb om,ewr];have k:C0 (A,B,0) (1,stP Q i)=some ((A,B++[stP Q i],0),true):=by
    unfold C0;rw [Au (by rfl),B8 (by rfl),R9 (by simp;omega)]
   rw [k,sb,B8 (by rfl),d,List.filter_cons_of_neg (by simp [f]),List.filter_cons_of_pos g,List.map_cons];have:=ih N (i+1) A (B++[stP Q i]) om om om (by simp;omega);rw [List.append_assoc] at this;exact this
  have idv:∀w,idP t.Kind n w i=(!(decide (t.Kind=2/\i+1=n/2))&&decide (wh t.Kind n i=w)):=λw=>rfl;rcases b with b|b|b
  ·have c:wh t.Kind n i=0:=by unfold wh;rw [if_neg om,if_neg om]
   rw [Au (by simp [b]),Au (by simp [b])];exact k0 (by rw [idv,c];simp [b]) (by rw [idv,c];simp)
  ·rw [B8 (by simp [b]),ckb om,sb]
   by_cases hm:i+1=n/2
   ·rw [B8 (by simp;omega),d];have:=ih N (i+1) A B om om om om;rw [this,List.filter_cons_of_neg (by rw [idv];simp [b,hm]),List.filter_cons_of_neg (by rw [idv];simp [b,hm])]
   ·rw [Au (by simp;omega),sb]
    by_cases l:n/2<=i
    ·have c:wh t.Kind n i=1:=by unfold wh;rw [if_pos om,if_pos l]
     rw [B8 (decide_eq_true om)];exact k1 (by rw [idv,c];simp) (by rw [idv,c];simp [hm])
    ·have c:wh t.Kind n i=0:=by unfold wh;rw [if_pos om,if_neg l]
     rw [Au (decide_eq_false om)];exact k0 (by rw [idv,c];simp [hm]) (by rw [idv,c];simp)
  ·have c:wh t.Kind n i=((i%2:Nat):Int):=by unfold wh;rw [if_neg om,if_pos om]
   have e3:Jr (i:Int) 2=some ((i%2:Nat):Int):=by rw [Tv om om];rfl
   rw [Au (by simp [b]),B8 (by simp [b]),e3,sb];rcases Nat.mod_two_eq_zero_or_one i with hm|hm<;>rw [hm] at c ⊢
   ·exact k0 (by rw [idv,c];simp [b]) (by rw [idv,c];simp)
   ·exact k1 (by rw [idv,c];simp) (by rw [idv,c];simp [b])
theorem B37 {F:Nat} (c:3000<=F) {L:Int} {Q:Nat->Int} (h:TrB t n):Jc F ((List.range n).map (smB L Q)) t C0 (([]:List Int),([]:List Int),0)=some (((idx t.Kind n 0).map (stP Q),(idx t.Kind n 1).map (stP Q),0),true):=by
 have b:=h.cn;have e:Sx ((List.range n).map (smB L Q)) 1 ((((List.range n).map (smB L Q)).length:Nat):Int)=some ((List.range' 1 (n-1)).map (smB L Q)):=by
  unfold Sx;rw [List.length_map,List.length_range,if_pos om,←List.map_drop,←List.map_take,List.take_of_length_le sm]
  congr 2
  rcases b with rfl|rfl|rfl|rfl|rfl<;>rfl
 unfold Jc;rw [e,sb];exact A6z h (n-1) F 0 [] [] om om (by simp;omega) (by simp;omega)
end
theorem B4f {k:Int} {n:Nat} {w:Int} (b:k=1\/k=2) (hn:n=4\/n=6\/n=8\/n=10\/n=12) (c:w=0\/w=1/\k≠1):∃a m,idx k n w=List.range' a m:=by
 rcases c with rfl|⟨rfl,c⟩
 ·rcases b with rfl|rfl
  ·refine ⟨0,n-1,?_⟩;rcases hn with rfl|rfl|rfl|rfl|rfl<;>decide
  ·refine ⟨0,n/2-1,?_⟩;rcases hn with rfl|rfl|rfl|rfl|rfl<;>decide
 ·rcases b with rfl|rfl
  ·omega
  ·refine ⟨n/2,n/2-1,?_⟩;rcases hn with rfl|rfl|rfl|rfl|rfl<;>decide
theorem A6f {k:Int} {n:Nat} {w:Int} (b:k=1\/k=2\/k=3) (hn:n=4\/n=6\/n=8\/n=10\/n=12) (c:w=0\/w=1/\k≠1):idx k n w≠[]:=by
 rcases c with rfl|⟨rfl,c⟩
 ·rcases b with rfl|rfl|rfl<;>rcases hn with rfl|rfl|rfl|rfl|rfl<;>decide
 ·rcases b with rfl|rfl|rfl
  ·omega
  all_goals rcases hn with rfl|rfl|rfl|rfl|rfl<;>decide
theorem B4e {n:Nat} (hn:n=4\/n=6\/n=8\/n=10\/n=12):idx 1 n 1=[]:=by
 rcases hn with rfl|rfl|rfl|rfl|rfl<;>decide
theorem Yq (k:Int) (n:Nat) (w:Int):(idx k n w).length<=n:=by
 unfold idx;have:=List.length_filter_le (idP k n w) (List.range' 0 (n-1));rw [List.length_range'] at this;omega
theorem B7i {k:Int} {n:Nat} {w:Int} {i:Nat} (h:i∈idx k n w):wh k n i=w:=by
 have:=(List.mem_filter.1 h).2;unfold idP at this;simp only [Bool.and_eq_true,decide_eq_true_eq] at this;exact this.2
theorem B38 {δ:Nat->Int} {c:Int}:∀I:List Nat,(∀i∈I,-c<=δ i/\δ i<=c)->-(c*(I.length:Int))<=(I.map δ).sum/\(I.map δ).sum<=c*(I.length:Int)
 | [],_=>by simp
 | i::I,h=>by
  have b:=h i (List.mem_cons_self ..);have d:=B38 I λj hj=>h j (List.mem_cons_of_mem _ hj);rw [List.map_cons,List.sum_cons,List.length_cons,Int.natCast_add,Int.mul_add,Int.natCast_one,Int.mul_one];omega
theorem A8a (f:Nat->Int):∀m a:Nat,((List.range' a m).map (λi=>f (i+1)-f i)).sum=f (a+m)-f a
 | 0,a=>by simp
 | m+1,a=>by
  rw [List.range'_succ,List.map_cons,List.sum_cons,A8a f m (a+1),show a+1+m=a+(m+1) by omega];omega
section
variable {t:zH} {n:Nat} {num den L e fr:Int} {sl:List Int} {F:Nat}
theorem A74 (h:TrB t n) {w:Int} (b:w=0\/w=1/\t.Kind≠1):400<=us t w/\us t w<=2441:=by
 have c:=h.fi;have d:=h.se;unfold us;rcases b with rfl|⟨rfl,e2⟩
 ·simp;omega
 ·simp;omega
theorem B1w (h:TrB t n) (hd:1<=den/\den<=10000) (hn:-(40000*den)<=num/\num<=40000*den) (he:1<=e/\e<=401) {w:Int} (o:w=0\/w=1/\t.Kind≠1) {a:zT} (r:ArcOk ((idx t.Kind n w).map (stP (Qf t n num den e sl fr))) a) (g:a.width+4*e<32768) :
  ∃s,Ev F a (if t.Kind=3 then 2*e*a.count else 2*e)=some s/\turnB s=true/\hitq t w s num den:=by
 have y:=A74 h o;have z:=h.la;have p:0<den*(500*t.Lambda):=Int.mul_pos om om;have j:=A6f h.kd h.cn o;have u:=Yq t.Kind n w;have hc:a.count=((idx t.Kind n w).length:Int):=by rw [r.count,List.length_map]
 have b5:0<(idx t.Kind n w).length:=List.length_pos_iff.2 j;have b6:=h.cn;have hb:-(4*(den*(500*t.Lambda)))<=num*us t w/\num*us t w<=4*(den*(500*t.Lambda)):=by
  have b1:num*us t w<=40000*den*us t w:=Int.mul_le_mul_of_nonneg_right hn.2 om;have b2:-(40000*den)*us t w<=num*us t w:=Int.mul_le_mul_of_nonneg_right hn.1 om;have b3:40000*den*us t w<=40000*den*2441:=Int.mul_le_mul_of_nonneg_left y.2 om;have b4:den*30000000<=den*(500*t.Lambda):=Int.mul_le_mul_of_nonneg_left om om;rw [Int.neg_mul] at b2;omega
 obtain ⟨ε,hε⟩:∃ε:Nat->Int,∀i,ε i=den*(500*t.Lambda)*Qf t n num den e sl fr i-num*65536*tau t n i:=⟨λi=>_,λi=>rfl⟩;have hεb:∀i,-(den*(500*t.Lambda)*e)<ε i/\ε i<=den*(500*t.Lambda)*(e-1):=λi=>by rw [hε];exact B3p h om he.1 i
 have b7:den*(500*t.Lambda)*(e-1)=den*(500*t.Lambda)*e-den*(500*t.Lambda):=by rw [Int.mul_sub,Int.mul_one]
 have v:2*e*(den*(500*t.Lambda))=2*(den*(500*t.Lambda)*e):=by grind
 have d:∀i∈idx t.Kind n w,den*(500*t.Lambda)*(Qf t n num den e sl fr (i+1)-Qf t n num den e sl fr i)=num*65536*us t w+(λi=>ε (i+1)-ε i) i/\-(2*e*(den*(500*t.Lambda)))<(λi=>ε (i+1)-ε i) i/\(λi=>ε (i+1)-ε i) i<2*e*(den*(500*t.Lambda)):=by
  intro i hi;have q:=B7i hi;have e1:=hε i;have e2:=hε (i+1);have b1:=hεb i;have b2:=hεb (i+1);have e3:tau t n (i+1)=tau t n i+us t w:=by rw [←q];rfl
  simp only;refine ⟨?_,om,om⟩;rw [e3,Int.mul_add] at e2;rw [Int.mul_sub];omega
 obtain ⟨S,l⟩:∃S,(if t.Kind=3 then 2*e*a.count else 2*e)=S:=⟨_,rfl⟩;rw [l];have f:(0<=S/\S<=802*((idx t.Kind n w).length:Int))/\-(den*(500*t.Lambda)*S)<=((idx t.Kind n w).map λi=>ε (i+1)-ε i).sum/\((idx t.Kind n w).map λi=>ε (i+1)-ε i).sum<=den*(500*t.Lambda)*S:=by
  by_cases x:t.Kind=3
  ·rw [if_pos x,hc] at l;subst l;refine ⟨⟨Int.mul_nonneg om om,Int.mul_le_mul_of_nonneg_right om om⟩,?_⟩;have:=B38 (c:=2*e*(den*(500*t.Lambda))) (idx t.Kind n w) λi hi=>by have:=(d i hi).2;exact ⟨Int.le_of_lt this.1,Int.le_of_lt this.2⟩
   have e9:den*(500*t.Lambda)*(2*e*((idx t.Kind n w).length:Int))=2*e*(den*(500*t.Lambda))*((idx t.Kind n w).length:Int):=by grind
   rw [e9];exact this
  ·rw [if_neg x] at l;subst l;have hk:=h.kd;obtain ⟨b,m,hr⟩:=B4f (k:=t.Kind) (n:=n) om h.cn o;refine ⟨⟨om,om⟩,?_⟩;rw [hr,A8a];have b1:=hεb b;have b2:=hεb (b+m);rw [show den*(500*t.Lambda)*(2*e)=2*(den*(500*t.Lambda)*e) by grind];omega
 obtain ⟨s,K,s1,s2,s3,s4⟩:=A9f (F:=F) p om d j om r g f.1 f.2;exact ⟨s,s1,s2,B9r om om om hb s2 s3 s4⟩
theorem A3e (d:3000<=F) {p:List Int} (b:p.length<=1000) (hb:∀x∈p,0<=x/\x<65536) (he:1<=e/\e<=401) :
  ∃a g,(p.length=0->a=⟨0,0,0,0⟩)/\(0<p.length->M7 F p=some a/\ArcOk p a)/\Ch F a e=some g/\(0<p.length->g=true->a.width+4*e<32768)/\(0<=a.width/\a.width<65536)/\a.count=(p.length:Int):=by
 by_cases h0:p.length=0
 ·refine ⟨⟨0,0,0,0⟩,true,λ_=>rfl,λh=>by omega,?_,λh=>by omega,sm,by simp [h0]⟩;unfold Ch;rw [gdF (by rfl),sb,gdF (by rfl),sb];rfl
 ·obtain ⟨a,a1,a2⟩:=B6t (F:=F) d (List.ne_nil_of_length_pos (by omega:0<p.length)) b hb;refine ⟨a,_,λh=>by omega,λ_=>⟨a1,a2⟩,A5q a2 om b,λ_ c=>?_,a2.width,a2.count⟩;rw [show decide (p.length=0)=false from decide_eq_false h0,Bool.false_or] at c;exact of_decide_eq_true c
theorem B7j {x559 x560 x561 x562 x563 x564 a1 a2 a3 a4:Int} {c g:Bool} {k9:Int->Int->Int->Int->Int->Int->Int->Int->Int->Int->Bool->Option zD} (h:Ch F ⟨a1,a2,a3,a4⟩ e=some g) (b:0<=x564/\x564<=10) :
  Ko F ⟨0,e,⟨0,0⟩⟩ x559 x560 x561 x562 x563 x564 c k9 a1 a2 a3 a4=k9 a1 a2 a3 a4 x559 x560 x561 x562 (if a2>x563 then a2 else x563) (x564+1) (c&&g):=by
 unfold Ko
 cases c with
 | true=>rw [B8 rfl,h,sb,ckb om];rfl
 | false=>rw [Au rfl,ckb om];rfl
theorem B1m {x555 x556 x557 x558 x563 x564 a1 a2 a3 a4:Int} {c g:Bool} {k9:Int->Int->Int->Int->Int->Int->Int->Int->Int->Int->Bool->Option zD} (h:Ch F ⟨a1,a2,a3,a4⟩ e=some g) (b:0<=x564/\x564<=10) :
  Kp F ⟨0,e,⟨0,0⟩⟩ x555 x556 x557 x558 x563 x564 c k9 a1 a2 a3 a4=k9 x555 x556 x557 x558 a1 a2 a3 a4 (if a2>x563 then a2 else x563) (x564+1) (c&&g):=by
 unfold Kp
 cases c with
 | true=>rw [B8 rfl,h,sb,ckb om];rfl
 | false=>rw [Au rfl,ckb om];rfl
structure EcB (t:zH) (num den:Int) (x:zD):Prop where
 ok:echoE x=0
 hit:x.Kind=3->turnB (stepOf x 0)=true/\hitq t 0 (stepOf x 0) num den/\(t.Kind≠1->turnB (stepOf x 1)=true/\hitq t 1 (stepOf x 1) num den)
theorem B9z (h:TrB t n) (hF:3000<=F) (hd:1<=den/\den<=10000) (hn:-(40000*den)<=num/\num<=40000*den) (he:1<=e/\e<=401) {P W:Int} (hP:1<=P/\P<=1000) (hW:0<=W/\W<65536) {y a b:zT} {z:List Int} (hz:z.length=n) (v:ArcOk z y)
  (ha:ArcOk ((idx t.Kind n 0).map (stP (Qf t n num den e sl fr))) a) (g:t.Kind=1->b=⟨0,0,0,0⟩) (i:t.Kind≠1->ArcOk ((idx t.Kind n 1).map (stP (Qf t n num den e sl fr))) b) {c:Bool} (l:c=true->a.width+4*e<32768) (m:t.Kind≠1->c=true->b.width+4*e<32768) :
  ∃x,Lx F t ⟨0,e,⟨0,0⟩⟩ P P 1000 1000 1000 1000 y a.base a.width a.sum a.count b.base b.width b.sum b.count W c=some x/\EcB t num den x:=by
 have b3:=h.cn;have o:=v.count;have hk:=h.kd;have e0:(if (1000:Int)<1000000 then (1000:Int) else 1000000)=1000:=by decide
 unfold Lx
 cases c with
 | false =>
  rw [B8 (by rfl),e0];refine ⟨_,rfl,?_,λd=>absurd d (show ¬(2:Int)=3 by decide)⟩;unfold echoE Zo inB noB;rw [if_neg sm,if_pos];simp;omega
 | true =>
  have b2e:(2*e)*y.count<=802*12:=Int.mul_le_mul om om om om;have b2e0:0<=(2*e)*y.count:=Int.mul_nonneg om om;obtain ⟨s,j,s1,s2,_⟩:=A7z (F:=F) v om om (S:=2*e*y.count) ⟨b2e0,by rw [o];exact Int.mul_le_mul_of_nonneg_right om om⟩;obtain ⟨s0,u1,u2,u3⟩:=B1w (F:=F) h hd hn he (.inl rfl) ha (l rfl);have p:∃s',Ev F b (if t.Kind=3 then 2*e*b.count else 2*e)=some s'/\turnB s'=true/\(t.Kind≠1->hitq t 1 s' num den):=by
   by_cases f:t.Kind=1
   ·refine ⟨⟨0,0⟩,?_,by rfl,λh2=>absurd f h2⟩;rw [g f];rfl
   ·obtain ⟨s',v1,v2,v3⟩:=B1w (F:=F) h hd hn he (.inr ⟨rfl,f⟩) (i f) (m f rfl);exact ⟨s',v1,v2,λ_=>v3⟩
  obtain ⟨s',v1,v2,v3⟩:=p;have q:=Yq t.Kind n 0;have r:=Yq t.Kind n 1;have b1:a.count=((idx t.Kind n 0).length:Int):=by rw [ha.count,List.length_map]
  have b2:0<=b.count/\b.count<=12:=by
   by_cases f:t.Kind=1
   ·rw [g f];simp
   ·rw [(i f).count,List.length_map];omega
  have ba:0<=2*e*a.count/\2*e*a.count<=802*12:=⟨Int.mul_nonneg om om,Int.mul_le_mul om om om om⟩;have bb:0<=2*e*b.count/\2*e*b.count<=802*12:=⟨Int.mul_nonneg om om,Int.mul_le_mul om om om om⟩;refine ⟨⟨3,⟨P,P⟩,(⟨s0.Lo,s0.Hi⟩,⟨s'.Lo,s'.Hi⟩),W,⟨1000,1000⟩,⟨1000,1000⟩,s⟩,?_,?_,?_⟩
  ·rw [Au (by rfl),ckb (by simp only;omega),ckb (by simp only;omega),s1,sb];obtain ⟨N,rfl⟩:∃N',F=N'+3:=⟨F-3,om⟩;generalize u:N+3=F at *;obtain ⟨G,hG⟩:∃G,G=F:=⟨_,rfl⟩;have step0:∀M,Dj F t ⟨0,e,⟨0,0⟩⟩ P P 1000 1000 1000 1000 a.base a.width a.sum a.count b.base b.width b.sum b.count W s (M+1) 0 0 0 0 0=Dj F t ⟨0,e,⟨0,0⟩⟩ P P 1000 1000 1000 1000 a.base a.width a.sum a.count b.base b.width b.sum b.count W s M s0.Lo s0.Hi 0 0 1:=by
    intro M;show G0 F t _ P P 1000 1000 1000 1000 a.base a.width a.sum a.count b.base b.width b.sum b.count W s (Dj F t _ P P 1000 1000 1000 1000 a.base a.width a.sum a.count b.base b.width b.sum b.count W s M) 0 0 0 0 0=_;unfold G0 Nq;rw [B8 (by rfl),B8 (by rfl),ckb (by simp only;omega)]
    by_cases d:t.Kind=3
    ·rw [if_pos d] at u1;rw [B8 (by simp [d]),ckb (by simp only;omega),u1,sb,ckb om];rfl
    ·rw [if_neg d] at u1;rw [Au (by simp [d]),u1,sb,ckb om];rfl
   have step1:∀M,Dj F t ⟨0,e,⟨0,0⟩⟩ P P 1000 1000 1000 1000 a.base a.width a.sum a.count b.base b.width b.sum b.count W s (M+1) s0.Lo s0.Hi 0 0 1=Dj F t ⟨0,e,⟨0,0⟩⟩ P P 1000 1000 1000 1000 a.base a.width a.sum a.count b.base b.width b.sum b.count W s M s0.Lo s0.Hi s'.Lo s'.Hi 2:=by
    intro M;show G0 F t _ P P 1000 1000 1000 1000 a.base a.width a.sum a.count b.base b.width b.sum b.count W s (Dj F t _ P P 1000 1000 1000 1000 a.base a.width a.sum a.count b.base b.width b.sum b.count W s M) s0.Lo s0.Hi 0 0 1=_;unfold G0 Nr;rw [B8 (by rfl),Au (by rfl),B8 (by rfl),ckb (by simp only;omega)]
    by_cases d:t.Kind=3
    ·rw [if_pos d] at v1;rw [B8 (by simp [d]),ckb (by simp only;omega),v1,sb,ckb om];rfl
    ·rw [if_neg d] at v1;rw [Au (by simp [d]),v1,sb,ckb om];rfl
   have k:∀M,Dj F t ⟨0,e,⟨0,0⟩⟩ P P 1000 1000 1000 1000 a.base a.width a.sum a.count b.base b.width b.sum b.count W s (M+3) 0 0 0 0 0=some ⟨3,⟨P,P⟩,(⟨s0.Lo,s0.Hi⟩,⟨s'.Lo,s'.Hi⟩),W,⟨1000,1000⟩,⟨1000,1000⟩,s⟩:=by
    intro M;rw [step0,step1];show G0 F t _ P P 1000 1000 1000 1000 a.base a.width a.sum a.count b.base b.width b.sum b.count W s (Dj F t _ P P 1000 1000 1000 1000 a.base a.width a.sum a.count b.base b.width b.sum b.count W s M) s0.Lo s0.Hi s'.Lo s'.Hi 2=_;unfold G0 Qx;rw [Au (by rfl),e0]
   have:=k N;rw [u] at this;exact this
  ·unfold echoE Zo inB;rw [if_neg sm,if_pos];simp only [Z9,u2,v2,s2];simp;omega
  ·intro _;exact ⟨u2,u3,λf=>⟨v2,v3 f⟩⟩
end
section
variable {t:zH} {n:Nat} {num den L e fr:Int} {sl:List Int} {F:Nat} {Q:Nat->Int}
theorem A72 (hn:n<=1000) (P:Int) (r154:((List Int)×(List Int)×Nat)×Bool):∀(q N i:Nat),i+q=n->q<N->J5 F t ⟨0,e,⟨0,0⟩⟩ ((List.range n).map (smB L Q)) P P 1000 1000 1000 1000 r154 N (i:Int) (List.replicate i 0)=Lw F t ⟨0,e,⟨0,0⟩⟩ P P 1000 1000 1000 1000 r154 (List.replicate n 0):=by
 intro q
 induction q with
 | zero =>
  intro N i hi b;obtain ⟨N,rfl⟩:∃N',N=N'+1:=⟨N-1,om⟩;show J4 F t _ _ P P 1000 1000 1000 1000 r154 (J5 F t _ _ P P 1000 1000 1000 1000 r154 N) (i:Int) _=_;unfold J4;rw [Au (decide_eq_false (by rw [List.length_map,List.length_range];omega)),show i=n by omega]
 | succ q ih =>
  intro N i hi b;obtain ⟨N,rfl⟩:∃N',N=N'+1:=⟨N-1,om⟩;show J4 F t _ _ P P 1000 1000 1000 1000 r154 (J5 F t _ _ P P 1000 1000 1000 1000 r154 N) (i:Int) _=_;unfold J4;rw [B8 (decide_eq_true (by rw [List.length_map,List.length_range];omega)),Ss (by omega:i<n)];have e1:(smB L Q i).Q-(smB L Q i).P=0:=Int.sub_self _;have e2:C7 0=0:=by rw [X5];rfl
  rw [e1,ckb om,e2,R9 (by simp;omega),ckb om,←List.replicate_succ'];have:=ih N (i+1) om om;rw [Int.natCast_add] at this;exact this
theorem B36 {w:Int}:∀x∈(idx t.Kind n w).map (stP Q),0<=x/\x<65536:=by
 intro x b;obtain ⟨i,_,rfl⟩:=List.mem_map.1 b;unfold stP;omega
theorem B9y (h:TrB t n) (o:3000<=F) (hd:1<=den/\den<=10000) (hn:-(40000*den)<=num/\num<=40000*den) (he:1<=e/\e<=401) {P:Int} (hP:1<=P/\P<=1000) (hQ:Q=Qf t n num den e sl fr) :
  ∃x,Lw F t ⟨0,e,⟨0,0⟩⟩ P P 1000 1000 1000 1000 (((idx t.Kind n 0).map (stP Q),(idx t.Kind n 1).map (stP Q),0),true) (List.replicate n 0)=some x/\EcB t num den x:=by
 have b7:=h.cn;have b8:=Yq t.Kind n 0;have b9:=Yq t.Kind n 1;have b4:0<(idx t.Kind n 0).length:=List.length_pos_iff.2 (A6f h.kd h.cn (.inl rfl));have l0:((idx t.Kind n 0).map (stP Q)).length=(idx t.Kind n 0).length:=List.length_map ..;have l1:((idx t.Kind n 1).map (stP Q)).length=(idx t.Kind n 1).length:=List.length_map ..;obtain ⟨y,gy,_,q,r,_,c0,_⟩:=A3e (F:=F) (e:=e) (p:=List.replicate n 0) o (by simp;omega) (λx hx=>by rw [(List.mem_replicate.1 hx).2];omega) he;obtain ⟨a,ga,_,s,u,v,c2,_⟩:=A3e (F:=F) (e:=e) (p:=(idx t.Kind n 0).map (stP Q)) o om B36 he;obtain ⟨b,gb,g,i,f,b0,c3,_⟩:=A3e (F:=F) (e:=e) (p:=(idx t.Kind n 1).map (stP Q)) o om B36 he;obtain ⟨y1,y2⟩:=q (by simp;omega);obtain ⟨a1,a2⟩:=s om;have b1:t.Kind=1->(idx t.Kind n 1).length=0:=λd=>by rw [d,B4e h.cn];rfl
 have j:t.Kind≠1->0<(idx t.Kind n 1).length:=λd=>List.length_pos_iff.2 (A6f h.kd h.cn (.inr ⟨rfl,d⟩));obtain ⟨W,hW⟩:∃W,(if b.width>(if a.width>0 then a.width else 0) then b.width else (if a.width>0 then a.width else 0))=W:=⟨_,rfl⟩;have b2:0<=W/\W<65536:=by
  rw [←hW]
  split<;>split<;>omega
 have step0:∀M,Dk F t ⟨0,e,⟨0,0⟩⟩ P P 1000 1000 1000 1000 (((idx t.Kind n 0).map (stP Q),(idx t.Kind n 1).map (stP Q),0),true) y (M+1) 0 0 0 0 0 0 0 0 0 0 gy=Dk F t ⟨0,e,⟨0,0⟩⟩ P P 1000 1000 1000 1000 (((idx t.Kind n 0).map (stP Q),(idx t.Kind n 1).map (stP Q),0),true) y M a.base a.width a.sum a.count 0 0 0 0 (if a.width>0 then a.width else 0) 1 (gy&&ga):=by
  intro M;show G1 F t _ P P 1000 1000 1000 1000 _ y (Dk F t _ P P 1000 1000 1000 1000 _ y M) 0 0 0 0 0 0 0 0 0 0 gy=_;unfold G1;rw [B8 (by rfl),B8 (by rfl),B8 (decide_eq_true (by simp only;omega)),a1,sb,B7j u om];rfl
 have step1:∀M W0 c,Dk F t ⟨0,e,⟨0,0⟩⟩ P P 1000 1000 1000 1000 (((idx t.Kind n 0).map (stP Q),(idx t.Kind n 1).map (stP Q),0),true) y (M+1) a.base a.width a.sum a.count 0 0 0 0 W0 1 c=Dk F t ⟨0,e,⟨0,0⟩⟩ P P 1000 1000 1000 1000 (((idx t.Kind n 0).map (stP Q),(idx t.Kind n 1).map (stP Q),0),true) y M a.base a.width a.sum a.count b.base b.width b.sum b.count (if b.width>W0 then b.width else W0) 2 (c&&gb):=by
  intro M W0 c;show G1 F t _ P P 1000 1000 1000 1000 _ y (Dk F t _ P P 1000 1000 1000 1000 _ y M) a.base a.width a.sum a.count 0 0 0 0 W0 1 c=_;unfold G1
  by_cases h0:0<(idx t.Kind n 1).length
  ·rw [B8 (by rfl),Au (by rfl),B8 (by rfl),B8 (decide_eq_true (by simp only;omega)),(i om).1,sb,B1m f om];rfl
  ·have k:=g om;rw [B8 (by rfl),Au (by rfl),B8 (by rfl),Au (decide_eq_false (by simp only;omega)),k];rw [k] at f;rw [B1m f om];rfl
 unfold Lw;have et:Ch F y (zV.mk 0 e ⟨0,0⟩).Phase=some gy:=r;rw [y1,sb,et,sb];obtain ⟨N,hN⟩:∃N,F=N+3:=⟨F-3,om⟩;obtain ⟨x,x1,x2⟩:=B9z (F:=F) (sl:=sl) (fr:=fr) h o hd hn he hP b2 (z:=List.replicate n 0) sm y2 (by rw [←hQ];exact a2) (b:=b) (λd=>g (by rw [l1];exact b1 d)) (λd=>by rw [←hQ];exact (i (by rw [l1];exact j d)).2) (c:=gy&&ga&&gb)
  (λl=>v om (by simp only [Bool.and_eq_true] at l;exact l.1.2)) (λd l=>b0 (by rw [l1];exact j d) (by simp only [Bool.and_eq_true] at l;exact l.2))
 refine ⟨x,?_,x2⟩;rw [←x1,←hW];have m:∀M,Dk F t ⟨0,e,⟨0,0⟩⟩ P P 1000 1000 1000 1000 (((idx t.Kind n 0).map (stP Q),(idx t.Kind n 1).map (stP Q),0),true) y (M+3) 0 0 0 0 0 0 0 0 0 0 gy=Lx F t ⟨0,e,⟨0,0⟩⟩ P P 1000 1000 1000 1000 y a.base a.width a.sum a.count b.base b.width b.sum b.count (if b.width>(if a.width>0 then a.width else 0) then b.width else (if a.width>0 then a.width else 0)) (gy&&ga&&gb):=by
  intro M;rw [step0,step1];show G1 F t _ P P 1000 1000 1000 1000 _ y (Dk F t _ P P 1000 1000 1000 1000 _ y M) a.base a.width a.sum a.count b.base b.width b.sum b.count _ 2 _=_;unfold G1;rw [Au (by rfl)]
 have:=m N;rw [←hN] at this;exact this
theorem B59 {a:Int} (b:1<=a/\a<=100000) (z:Int):Ly F a (a*a) z=some 1000:=by
 have c:0<a*a:=Int.mul_pos om om;have d:a*a<=100000*100000:=Int.mul_le_mul b.2 b.2 om om;have e:1000*a*a=1000*(a*a):=Int.mul_assoc ..;unfold Ly;rw [Au (by simp;omega),ckb om,e,ckb om,Rd F om c,sb,Int.mul_ediv_cancel _ om];rfl
theorem B5a {a:Int} (b:1<=a/\a<=100000) (z:Int):Lz F a (a*a) z=some 1000:=by
 have c:0<a*a:=Int.mul_pos om om;have d:a*a<=100000*100000:=Int.mul_le_mul b.2 b.2 om om;have e:1000*a*a=1000*(a*a):=Int.mul_assoc ..;unfold Lz;rw [Au (by simp;omega),ckb om,e,ckb om,Un F om c,sb,←Int.neg_mul,Int.mul_ediv_cancel _ om];rfl
theorem B1h (h:TrB t n) (k:3000<=F) (hd:1<=den/\den<=10000) (hn:-(40000*den)<=num/\num<=40000*den) (he:1<=e/\e<=401) (d:0<=L/\L<=19) (q:Q=Qf t n num den e sl fr) :
  ∃x,Sh F t ⟨0,e,⟨0,0⟩⟩ ((List.range n).map (smB L Q))=some x/\EcB t num den x:=by
 have r:=h.cn;have f:=B5j (F:=F) (Q:=Q) (n:=n) k (L:=L) om om;have g:0<=L*L:=Int.mul_nonneg d.1 d.1;have s:L*L<=19*19:=Int.mul_le_mul d.2 d.2 d.1 om;generalize hp:L*L=p at *;have b:0<=(n:Int)*p:=Int.mul_nonneg om g;have c:(n:Int)*p<=12*361:=Int.mul_le_mul om om g om;have d1:(n:Int)*p/(n:Int)=p:=Int.mul_ediv_cancel_left _ om;have d2:-(-((n:Int)*p)/(n:Int))=p:=by rw [←Int.mul_neg,Int.mul_ediv_cancel_left _ om,Int.neg_neg]
 have el:((((List.range n).map (smB L Q)).length:Nat):Int)=(n:Int):=by rw [List.length_map,List.length_range]
 have ew:IntKind.i64.wrap (0-(zV.mk 0 e ⟨0,0⟩).Level)=0:=by rfl
 have ei:(if p>0 then p else 0)=p:=by split<;>omega
 unfold Sh;rw [ew,f,sb,sb];have step0:∀M,Cz F t ⟨0,e,⟨0,0⟩⟩ ((List.range n).map (smB L Q)) ((n:Int)*p,(n:Int)*p,(n:Int)*p) ((n:Int)*p,(n:Int)*p,(n:Int)*p) (M+1) 0 0 0 0 0=Cz F t ⟨0,e,⟨0,0⟩⟩ ((List.range n).map (smB L Q)) ((n:Int)*p,(n:Int)*p,(n:Int)*p) ((n:Int)*p,(n:Int)*p,(n:Int)*p) M p p 0 0 1:=by
  intro M;show Ey F t _ _ _ _ (Cz F t _ _ _ _ M) 0 0 0 0 0=_;unfold Ey;rw [B8 (by rfl),B8 (by rfl),el,Rd F om om,sb,d1,ckb (by simp only;omega),Un F om om,sb,d2,ckb (by simp only;omega),ckb om,Int.sub_zero,ei];rfl
 have step1:∀M,Cz F t ⟨0,e,⟨0,0⟩⟩ ((List.range n).map (smB L Q)) ((n:Int)*p,(n:Int)*p,(n:Int)*p) ((n:Int)*p,(n:Int)*p,(n:Int)*p) (M+1) p p 0 0 1=Cz F t ⟨0,e,⟨0,0⟩⟩ ((List.range n).map (smB L Q)) ((n:Int)*p,(n:Int)*p,(n:Int)*p) ((n:Int)*p,(n:Int)*p,(n:Int)*p) M p p p p 2:=by
  intro M;show Ey F t _ _ _ _ (Cz F t _ _ _ _ M) p p 0 0 1=_;unfold Ey;rw [B8 (by rfl),Au (by rfl),B8 (by rfl),el,Rd F (by simp only;omega) om,sb,d1,ckb (by simp only;omega),Un F (by simp only;omega) om,sb,d2,ckb (by simp only;omega),ckb om,Int.sub_zero,ei];rfl
 have i:∀M,Cz F t ⟨0,e,⟨0,0⟩⟩ ((List.range n).map (smB L Q)) ((n:Int)*p,(n:Int)*p,(n:Int)*p) ((n:Int)*p,(n:Int)*p,(n:Int)*p) (M+3) 0 0 0 0 0=Np F t ⟨0,e,⟨0,0⟩⟩ ((List.range n).map (smB L Q)) ((n:Int)*p,(n:Int)*p,(n:Int)*p) ((n:Int)*p,(n:Int)*p,(n:Int)*p) p p p p:=by
  intro M;rw [step0,step1];show Ey F t _ _ _ _ (Cz F t _ _ _ _ M) p p p p 2=_;unfold Ey;rw [Au (by rfl)]
 obtain ⟨N,u⟩:∃N,F=N+3:=⟨F-3,om⟩;have m:=i N;rw [←u] at m;rw [m];unfold Np
 by_cases j:p=0
 ·refine ⟨_,B8 (by simp [j]),?_,λv=>absurd v (show ¬(1:Int)=3 by decide)⟩;subst j;rfl
 ·have y:1<=(n:Int)*p:=by
   have:(4:Int)*1<=(n:Int)*p:=Int.mul_le_mul om om om om;omega
  have z:Qy (1000*p) p=some 1000:=by
   unfold Qy;rw [if_neg j,Int.mul_tdiv_cancel _ j];rfl
  have hu:-(-(1000*p)/p)=1000:=by rw [←Int.neg_mul,Int.mul_ediv_cancel _ j];rfl
  have b1:((n:Int)*p)*((n:Int)*p)<=12*361*(12*361):=Int.mul_le_mul c c b om;have o:0<=((n:Int)*p)*((n:Int)*p):=Int.mul_nonneg b b;have l:=B9y (F:=F) (P:=p) (sl:=sl) (fr:=fr) h k hd hn he om q;obtain ⟨x,x1,x2⟩:=l;refine ⟨x,?_,x2⟩;rw [Au (by simp;omega),ckb om,z,sb,ckb om,Un F om om,sb,hu];simp only;rw [ckb om,ckb om,B59 om,sb,B5a om,sb,B37 k h,sb,B8 (by rfl)];exact (A72 om p _ n F 0 om om).trans x1
theorem A61 (hn:n<=1000) (c:0<=L/\L<=19):∀(q N i:Nat),i+q=n->q<N->L7 F t ⟨0,e,⟨0,0⟩⟩ ((List.range n).map (smB L Q)) N (i:Int)=Pk F t ⟨0,e,⟨0,0⟩⟩ ((List.range n).map (smB L Q)):=by
 intro q
 induction q with
 | zero =>
  intro N i hi b;obtain ⟨N,rfl⟩:∃N',N=N'+1:=⟨N-1,om⟩;show L6 F t _ _ (L7 F t _ _ N) (i:Int)=_;unfold L6;rw [Au (decide_eq_false (by rw [List.length_map,List.length_range];omega))]
 | succ q ih =>
  intro N i hi b;obtain ⟨N,rfl⟩:∃N',N=N'+1:=⟨N-1,om⟩;show L6 F t _ _ (L7 F t _ _ N) (i:Int)=_;unfold L6;rw [B8 (decide_eq_true (by rw [List.length_map,List.length_range];omega)),Ss (by omega:i<n)];have e1:C7 (Q i%65536)=Q i%65536:=by rw [X5];omega
  have w1:Ag L 0 1023=true:=by unfold Ag;rw [decide_eq_true om,decide_eq_true om];rfl
  simp only [smB,gt_iff_lt,Int.lt_irrefl,if_false,w1,e1];rw [Au (by rw [bne_self_eq_false];rfl),ckb om];have:=ih N (i+1) om om;rw [Int.natCast_add] at this;exact this
theorem B4c (h:TrB t n) (c:3000<=F) (hd:1<=den/\den<=10000) (hn:-(40000*den)<=num/\num<=40000*den) (he:1<=e/\e<=401) (b:0<=L/\L<=19) (d:Q=Qf t n num den e sl fr) :
  ∃x,Tg F t ⟨0,e,⟨0,0⟩⟩ ((List.range n).map (smB L Q))=some (x,0)/\EcB t num den x:=by
 have f:=h.cn;obtain ⟨x,x1,x2⟩:=B1h (F:=F) h c hd hn he b d;refine ⟨x,?_,x2⟩;have g:F6 F t=some 0:=(Wi F t).trans (by rw [h.ok]);have hr:J9 F ⟨0,e,⟨0,0⟩⟩=some 0:=by
  unfold J9;have w:Ag e 0 4096=true:=by unfold Ag;rw [decide_eq_true om,decide_eq_true om];rfl
  simp only;rw [w];rfl
 unfold Tg;rw [g,sb,Au (by rfl),hr,sb,Au (by rfl),Au (by rw [h.ct];simp)];refine (A61 om b n F 0 om om).trans ?_;unfold Pk;rw [x1,sb]
end
end Go.Proofs.YtfkeddejdahnhaaGreatDoor
