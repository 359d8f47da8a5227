import Derived.Test.YtkbjbnkkfifbmaaGreatK4WkD
import Derived.Lib.DecodeN
set_option linter.unusedVariables false
set_option linter.unusedSimpArgs false
set_option linter.unusedSectionVars false
namespace Go.Proofs.YtkbjbnkkfifbmaaGreat
open Go Go.RowKit Go.Eng
set_option maxRecDepth 10000
set_option linter.unusedVariables false
set_option linter.unusedSimpArgs false
theorem ckb {β:Type} {x:Int} {f:Int→Option β} (h:-9000000000000000000≤x∧x≤9000000000000000000):(ck x).bind f=f x:=by
 unfold ck;rw [if_pos (by omega)];rfl
theorem gdT {α:Type} {g:Bool} {o:Option α} {d:α} (h:g=true):gd g o d=o:=by subst h;rfl
theorem gdF {α:Type} {g:Bool} {o:Option α} {d:α} (h:g=false):gd g o d=some d:=by subst h;rfl
theorem Eo {α:Type} {c:Bool} {x y:α} (h:c=true):(bif c then x else y)=x:=by rw [h];rfl
theorem Bt {α:Type} {c:Bool} {x y:α} (h:c=false):(bif c then x else y)=y:=by rw [h];rfl
theorem sbd {α β:Type} {x:α} {f:α→Option β}:(some x).bind f=f x:=rfl
theorem dT {p:Prop} [Decidable p] (h:p):decide p=true:=decide_eq_true h
theorem dF {p:Prop} [Decidable p] (h:¬p):decide p=false:=decide_eq_false h
theorem Jr {α β:Type} {l:List α} {i:Int} {f:α→Option β} (n:Nat) (x:α) (hi:i=(n:Int)) (h:l[n]? = some x):(Bk l i).bind f=f x:=by
 subst hi;unfold Bk;rw [if_pos (by omega),show ((n:Int)).toNat=n by omega,h];rfl
theorem Sv {α β:Type} {l k:List α} {B:Nat} {f:List α→Option β} (h:(l.length+k.length)*B≤140737488355328) (hB:1≤B):(apd B l k).bind f=f (l++k):=by
 unfold apd;have:l.length+k.length≤(l.length+k.length)*B:=Nat.le_mul_of_pos_right _ hB;rw [if_pos ⟨h,by omega⟩];rfl
theorem A13 {x y A B:Int} (hx:-A≤x∧x≤A) (hy:-B≤y∧y≤B):-(A*B)≤x*y∧x*y≤A*B:=by
 have h1:(x*y).natAbs≤A.natAbs*B.natAbs:=by rw [Int.natAbs_mul];exact Nat.mul_le_mul (by omega) (by omega)
 have h2:0≤A*B:=Int.mul_nonneg (by omega) (by omega);have h3:(A*B).natAbs=A.natAbs*B.natAbs:=Int.natAbs_mul A B;omega
theorem A14 {x y A B:Int} (hx:0≤x∧x≤A) (hy:0≤y∧y≤B):0≤x*y∧x*y≤A*B :=
 ⟨Int.mul_nonneg hx.1 hy.1,(A13 (A:=A) (B:=B) ⟨by omega,hx.2⟩ ⟨by omega,hy.2⟩).2⟩
structure VS (s:api_Site):Prop where
 x:-1048576≤s.X∧s.X≤1048576
 y:-1048576≤s.Y∧s.Y≤1048576
 z:0≤s.Z∧s.Z≤20000
 rose:1≤s.Rose∧s.Rose≤90
 gates:1≤s.Gates∧s.Gates≤200
 step:50≤s.Step∧s.Step≤2000
 width:0≤s.Width∧s.Width≤8
structure VG (g:api_Grid):Prop where
 x:-1048576≤g.X∧g.X≤1048576
 y:-1048576≤g.Y∧g.Y≤1048576
 size:1≤g.Size∧g.Size≤10000
 wide:1≤g.Wide∧g.Wide≤64
 high:1≤g.High∧g.High≤64
end Go.Proofs.YtkbjbnkkfifbmaaGreat
namespace Go.Proofs.YtkbjbnkkfifbmaaGreat
open Go Go.RowKit Go.Eng
set_option maxRecDepth 10000
set_option linter.unusedVariables false
set_option linter.unusedSimpArgs false
def gLo (L t:Int):Int:=L*(262144-t*t)/(2*(262144+t*t))
def gHi (L t:Int):Int:=-(-(L*(262144-t*t))/(2*(262144+t*t)))
def loZ (L t e:Int):Int:=L*(1024*t)/(2*(262144+t*t))+gLo L t*gLo L t/(2*e)
def hiZ (L t e:Int):Int:=-(-(L*(1024*t))/(2*(262144+t*t))) + -(-(gHi L t*gHi L t)/(2*e))
def VE (e:api_Span):Prop:=1000000≤e.Lo∧e.Lo≤e.Hi∧e.Hi≤100000000
def A02 (s:api_Site) (t:Int) (e:api_Span) (g:Int):api_Span:=⟨s.Z+loZ ((2*g+1)*s.Step) (t-s.Width) e.Hi,s.Z+hiZ ((2*g+1)*s.Step) (t+s.Width) e.Lo⟩
end Go.Proofs.YtkbjbnkkfifbmaaGreat
namespace Go.Proofs.YtkbjbnkkfifbmaaGreat
open Go Go.RowKit Go.Eng
set_option maxRecDepth 10000
set_option linter.unusedVariables false
set_option linter.unusedSimpArgs false
section
variable {κ ν:Type} [DecidableEq κ]
theorem X1 (B:List (κ×ν)) (k x:κ) (v:ν):lkM (upM B k v) x=if x=k then some v else lkM B x:=by
 induction B with
 | nil=>rfl
 | cons p B ih =>
  unfold upM
  by_cases h:k=p.1
  ·rw [if_pos h];unfold lkM;subst h
   by_cases hx:x=p.1
   ·rw [if_pos hx,if_pos hx]
   ·rw [if_neg hx,if_neg hx,if_neg hx]
  ·rw [if_neg h];unfold lkM
   by_cases hx:x=p.1
   ·rw [if_pos hx,if_neg (by rw [hx];exact fun e=>h e.symm),if_pos hx]
   ·rw [if_neg hx,ih]
    by_cases hk:x=k
    ·rw [if_pos hk,if_pos hk]
    ·rw [if_neg hk,if_neg hk,if_neg hx]
end
def tot (B:List (mosaic_Key×List (List api_Span))):Nat:=(B.map fun p=>p.2.length).sum
def c3 (a b:Int):Int:=if a<b then -1 else if b<a then 1 else 0
theorem Lg (a b:Int):Ad a b=c3 a b:=by
 unfold Ad C1 c3;simp only [bne_self_eq_false,cond_false]
 by_cases h1:a<b
 ·rw [dT h1,if_pos h1];rfl
 ·by_cases h2:b<a
  ·rw [dF h1,if_neg h1,if_pos h2,dT h2];rfl
  ·rw [dF h1,if_neg h1,if_neg h2,dF h2];rfl
def orL:List Int→Int
 | []=>0
 | x::l=>if x≠0 then x else orL l
theorem Zo (l:List Int):∀(n i:Nat),i≤l.length→l.length-i<n→l.length<1000000→Fi l n (i:Int)=some (orL (l.drop i)):=by
 intro n
 induction n with
 | zero=>intro i _ h;omega
 | succ n ih =>
  intro i hi hn hl;rw [Fi];unfold Jd
  by_cases hc:i<l.length
  ·rw [Eo (dT (by omega)),Jr i l[i] rfl (List.getElem?_eq_getElem hc),List.drop_eq_getElem_cons hc];unfold orL
   by_cases h:l[i]=0
   ·rw [Bt (by simpa using h),if_neg (by simpa using h),ckb (by omega)];exact ih (i+1) (by omega) (by omega) hl
   ·rw [Eo (by simpa using h),if_pos h]
  ·rw [Bt (dF (by omega)),List.drop_eq_nil_of_le (by omega)];rfl
theorem Zy {F:Nat} (l:List Int) (h:l.length<F) (h2:l.length<1000000):Ke F l=some (orL l):=by
 have:=Zo l F 0 (by omega) (by omega) h2;rw [List.drop_zero] at this;exact this
end Go.Proofs.YtkbjbnkkfifbmaaGreat
namespace Go.Proofs.YtkbjbnkkfifbmaaGreat
open Go Go.RowKit Go.Eng
set_option maxRecDepth 10000
set_option linter.unusedVariables false
set_option linter.unusedSimpArgs false
def radM (s:mosaic_Spec):List (ByteArray×mosaic_Radar):=s.Radars.foldl (fun B r=>upM B r.Site.Name r) []
def pix (s:mosaic_Spec):Nat:=(s.Grid.Wide*s.Grid.High).toNat
structure GS (F:Nat) (s:mosaic_Spec):Prop where
 g:VG s.Grid
 e:VE s.Earth
 age:1≤s.Age∧s.Age≤86400
 small:pix s≤500
 r:∀n x,lkM (radM s) n=some x→VS x.Site∧beam_CheckSite F x.Site=some 0∧(-3600≤x.Offset.Lo∧x.Offset.Lo≤x.Offset.Hi∧x.Offset.Hi≤3600)∧n≠ByteArray.empty∧x.Site.Name=n
def okK (s:mosaic_Spec) (k:mosaic_Key):Prop:=(∃r,lkM (radM s) k.Name=some r)∧(0≤k.Tilt∧k.Tilt≤256)∧(0≤k.Time∧k.Time≤4294967296)
structure okM (s:mosaic_Spec) (m:mosaic_Message):Prop where
 key:okK s m.Key
 len:m.Vals.length=pix s
 vals:∀v∈m.Vals,0≤v.Lo∧v.Lo≤v.Hi∧v.Hi≤1000000
def Z2 (F:Nat) (s:mosaic_Spec) (w:mosaic_where):List api_Span :=
 (((Mw F ((lkM (radM s) w.name).getD default).Site w.tilt s.Grid).getD ([],0)).1).map fun v=>if 0≤v then A02 ((lkM (radM s) w.name).getD default).Site w.tilt s.Earth (v.tmod ((lkM (radM s) w.name).getD default).Site.Gates) else ⟨1,0⟩
def LV (F:Nat) (s:mosaic_Spec) (L:List (mosaic_where×List api_Span)):Prop:=∀w l,lkM L w=some l→l=Z2 F s w
structure NI (F:Nat) (s:mosaic_Spec) (N:mosaic_Node):Prop where
 spec:N.spec=s
 radars:N.radars=radM s
 nd:(N.kept.map (·.1)).Nodup
 ok:∀p∈N.kept,okK s p.1∧p.2≠[]∧∀v∈p.2,v.length=pix s
 count:N.count=(tot N.kept:Int)
 looks:LV F s N.looks
theorem Vu {n a b:Int} (h:a≤n∧n≤b):B5 n a b=true:=by unfold B5;rw [dT h.1,dT h.2];rfl
end Go.Proofs.YtkbjbnkkfifbmaaGreat
namespace Go.Proofs.YtkbjbnkkfifbmaaGreat
open Go Go.RowKit Go.Eng
set_option maxRecDepth 10000
set_option linter.unusedVariables false
set_option linter.unusedSimpArgs false
end Go.Proofs.YtkbjbnkkfifbmaaGreat
namespace Go.Proofs.YtkbjbnkkfifbmaaGreat
open Go Go.RowKit Go.Eng
set_option maxRecDepth 10000
set_option linter.unusedVariables false
set_option linter.unusedSimpArgs false
theorem baE (a b:ByteArray):(a==b)=true↔a=b:=by
 obtain ⟨a⟩:=a;obtain ⟨b⟩:=b;constructor
 ·intro h;have:(a==b)=true:=h;rw [beq_iff_eq] at this;rw [this]
 ·intro h
  cases h
  exact (beq_self_eq_true a:_)
end Go.Proofs.YtkbjbnkkfifbmaaGreat
namespace Go.Proofs.YtkbjbnkkfifbmaaGreat
open Go Go.RowKit Go.Eng
set_option maxRecDepth 10000
set_option linter.unusedVariables false
set_option linter.unusedSimpArgs false
structure C3 {α:Type} (c:α→α→Int):Prop where
 tr:∀x y z,c x y<0→c y z<0→c x z<0
 e1:∀x y z,c x y=0→c x z=c y z
 e2:∀x y z,c y z=0→c x y=c x z
 rf:∀x,c x x=0
 ay:∀x y,c x y<0∨c x y=0∨c y x<0
def Qt {α:Type} (c d:α→α→Int) (x y:α):Int:=if c x y≠0 then c x y else d x y
theorem Qf {α:Type} {c d:α→α→Int} (hc:C3 c) (hd:C3 d):C3 (Qt c d):=by
 refine ⟨fun x y z=>?_,fun x y z=>?_,fun x y z=>?_,fun x=>?_,fun x y=>?_⟩
 ·unfold Qt;intro h1 h2
  by_cases a:c x y=0
  ·rw [if_neg (by simpa using a)] at h1;have e:=hc.e1 x y z a;rw [e]
   by_cases b:c y z=0
   ·rw [if_neg (by simpa using b)] at h2 ⊢;exact hd.tr x y z h1 h2
   ·rw [if_pos b] at h2 ⊢;exact h2
  ·rw [if_pos a] at h1
   by_cases b:c y z=0
   ·have e:=hc.e2 x y z b;rw [←e,if_pos a];exact h1
   ·rw [if_pos b] at h2;have:=hc.tr x y z h1 h2;rw [if_pos (by omega)];exact this
 ·unfold Qt;intro h1
  by_cases a:c x y=0
  ·rw [if_neg (by simpa using a)] at h1;rw [hc.e1 x y z a,hd.e1 x y z h1]
  ·rw [if_pos a] at h1;exact absurd h1 a
 ·unfold Qt;intro h1
  by_cases a:c y z=0
  ·rw [if_neg (by simpa using a)] at h1;rw [hc.e2 x y z a,hd.e2 x y z h1]
  ·rw [if_pos a] at h1;exact absurd h1 a
 ·unfold Qt;rw [if_neg (by simpa using hc.rf x),hd.rf]
 ·unfold Qt;rcases hc.ay x y with h|h|h
  ·left;rw [if_pos (by omega)];exact h
  ·rw [if_neg (by simpa using h)];have h':c y x=0:=by have:=hc.e1 x y x h;rw [hc.rf] at this;exact this.symm
   rw [if_neg (by simpa using h')];exact hd.ay x y
  ·right;right;rw [if_pos (by omega)];exact h
theorem Wk {α:Type} (f:α→Int):C3 (fun x y=>c3 (f x) (f y)):=by
 refine ⟨fun x y z=>?_,fun x y z=>?_,fun x y z=>?_,fun x=>?_,fun x y=>?_⟩<;>unfold c3<;>(repeat' split)<;>omega
theorem Z3 {α:Type} (f:α→Int):C3 (fun x y=>c3 (f y) (f x)):=by
 refine ⟨fun x y z=>?_,fun x y z=>?_,fun x y z=>?_,fun x=>?_,fun x y=>?_⟩<;>unfold c3<;>(repeat' split)<;>omega
theorem Lq {a b:ByteArray}:c3s a b<0↔a.toList<b.toList:=by
 unfold c3s
 by_cases h:Pw a b=true
 ·rw [if_pos h];exact ⟨fun _=>(Lc a b).1 h,fun _=>by decide⟩
 ·rw [if_neg h];refine ⟨fun h2=>?_,fun h2=>absurd ((Lc a b).2 h2) h⟩
  split at h2<;>simp at h2
theorem Mk {a b:ByteArray}:c3s a b=0↔a.toList=b.toList:=by
 unfold c3s
 by_cases h:Pw a b=true
 ·rw [if_pos h];refine ⟨fun h2=>by simp at h2,fun h2=>?_⟩;have:=(Lc a b).1 h;rw [h2] at this;exact absurd this (Ps _)
 ·rw [if_neg h]
  by_cases g:Pc a b=true
  ·rw [if_pos g];exact ⟨fun h2=>by simp at h2,fun h2=>absurd h2 ((Pd a b).1 g).2⟩
  ·rw [if_neg g];refine ⟨fun _=>?_,fun _=>rfl⟩;refine Decidable.by_contra fun hn=>g ((Pd a b).2 ⟨fun hl=>h ((Lc a b).2 hl),hn⟩)
theorem Sy {a b c d:ByteArray} (h:a.toList=b.toList) (k:c.toList=d.toList):c3s a c=c3s b d:=by
 rcases U6 a.toList c.toList with e|e|e
 ·have h1:c3s a c<0:=Lq.2 e;have h2:c3s b d<0:=Lq.2 (by rw [←h,←k];exact e);unfold c3s at *
  split at h1<;>(try split at h1)<;>split at h2<;>(try split at h2)<;>simp_all
 ·rw [Mk.2 e,Mk.2 (by rw [←h,←k];exact e)]
 ·have h1:¬c3s a c<0:=fun x=>absurd (V6 e (Lq.1 x)) (Ps _);have h1':c3s a c≠0:=fun x=>by rw [Mk.1 x] at e;exact Ps _ e
  have h2:¬c3s b d<0:=fun x=>by have:=Lq.1 x;rw [←h,←k] at this;exact absurd (V6 e this) (Ps _)
  have h2':c3s b d≠0:=fun x=>by have:=Mk.1 x;rw [←h,←k] at this;rw [this] at e;exact Ps _ e
  unfold c3s at *
  split at h1<;>(try split at h1)<;>split at h2<;>(try split at h2)<;>simp_all
theorem Z4 {α:Type} (f:α→ByteArray):C3 (fun x y=>c3s (f x) (f y)):=by
 refine ⟨fun x y z h1 h2=>Lq.2 (V6 (Lq.1 h1) (Lq.1 h2)),fun x y z h=>Sy (Mk.1 h) rfl,fun x y z h=>Sy rfl (Mk.1 h),fun x=>Mk.2 rfl,fun x y=>?_⟩;rcases U6 (f x).toList (f y).toList with e|e|e
 ·exact .inl (Lq.2 e)
 ·exact .inr (.inl (Mk.2 e))
 ·exact .inr (.inr (Lq.2 e))
abbrev BK:=api_Span×mosaic_Key
def Tv (x y:BK):Int:=orL [c3 x.1.Hi y.1.Hi,c3 x.1.Lo y.1.Lo,c3 y.2.Time x.2.Time,c3s x.2.Name y.2.Name,c3 x.2.Tilt y.2.Tilt]
theorem Xv:Tv=Qt (fun x y=>c3 x.1.Hi y.1.Hi) (Qt (fun x y=>c3 x.1.Lo y.1.Lo) (Qt (fun x y=>c3 y.2.Time x.2.Time) (Qt (fun x y=>c3s x.2.Name y.2.Name) (fun x y=>c3 x.2.Tilt y.2.Tilt)))):=by
 funext x y
 unfold Tv Qt;show (if _ then _ else if _ then _ else if _ then _ else if _ then _ else if c3 x.2.Tilt y.2.Tilt≠0 then c3 x.2.Tilt y.2.Tilt else 0)=_;have:(if c3 x.2.Tilt y.2.Tilt≠0 then c3 x.2.Tilt y.2.Tilt else 0)=c3 x.2.Tilt y.2.Tilt:=by split<;>omega
 rw [this]
theorem betC_ok:C3 Tv:=by
 rw [Xv];exact Qf (Wk fun x:BK=>x.1.Hi) (Qf (Wk fun x:BK=>x.1.Lo) (Qf (Z3 fun x:BK=>x.2.Time) (Qf (Z4 fun x:BK=>x.2.Name) (Wk fun x:BK=>x.2.Tilt))))
theorem Vf (a b:ByteArray):B4 a b=c3s a b:=by
 unfold B4 Bc;have:∀c:ByteArray,sEq c c=true:=fun c=>by unfold sEq;simp
 rw [this,this,Bt (c:=!true) rfl,Bt (c:=!true) rfl];unfold c3s
 cases Pw a b with
 | true=>rfl
 | false=>cases Pc a b<;>rfl
def Un (l:List mosaic_used) (p:Nat) (x:mosaic_Pixel):Prop :=
 (x=⟨⟨0,1000000⟩,⟨ByteArray.empty,0,0⟩⟩∧∀u∈l,∀b,u.bands[p]? = some b→¬b.Lo≤b.Hi) ∨
 ∃u∈l,∃b v,u.bands[p]? = some b∧b.Lo≤b.Hi∧u.vals[p]? = some v∧x=⟨v,u.Key⟩∧∀u'∈l,∀b',u'.bands[p]? = some b'→b'.Lo≤b'.Hi→¬Tv (b',u'.Key) (b,u.Key)<0
def Q9 (l:List mosaic_used) (p i:Nat) (q:Int):Prop :=
 (q=-1∧∀j u b,j<i→l[j]? = some u→u.bands[p]? = some b→¬b.Lo≤b.Hi) ∨
 ∃(m:Nat) (u:mosaic_used) (b:api_Span),q=m∧m<i∧l[m]? = some u∧u.bands[p]? = some b∧b.Lo≤b.Hi∧∀j u' b',j<i→l[j]? = some u'→u'.bands[p]? = some b'→b'.Lo≤b'.Hi→¬Tv (b',u'.Key) (b,u.Key)<0
abbrev YU:=List mosaic_used×List (mosaic_where×List api_Span)
theorem Wh {F P:Nat} {Y:YU} {p:Nat} {acc:List mosaic_Pixel} {k2:Int→List mosaic_Pixel→Option (List mosaic_Pixel×Int×List (mosaic_where×List api_Span))} (hF:100≤F) (hY:∀u∈Y.1,u.bands.length=P∧u.vals.length=P) (hp:p<P) (hl:Y.1.length≤10000) :
  ∀(n i:Nat) (q:Int),i≤Y.1.length→Y.1.length-i<n→Q9 Y.1 p i q→∃q',Bh F Y p acc k2 n q (i:Int)=Bx Y p acc k2 q'∧Q9 Y.1 p Y.1.length q':=by
 intro n
 induction n with
 | zero=>intro i q _ h;omega
 | succ n ih =>
  intro i q hi hn hq;rw [Bh];unfold Ee
  by_cases hc:i<Y.1.length
  ·have hu:=hY _ (List.getElem_mem hc);have hgu:=List.getElem?_eq_getElem hc;obtain ⟨u,hue⟩:∃u,u=Y.1[i]:=⟨_,rfl⟩;rw [←hue] at hu hgu;obtain ⟨b,hb⟩:∃b,u.bands[p]? = some b:=⟨_,List.getElem?_eq_getElem (show p<u.bands.length by omega)⟩;rw [Eo (dT (by omega)),Jr i u rfl hgu,Jr p b rfl hb];have fin:∀q',Q9 Y.1 p (i+1) q'→∃q2,Bg (i:Int) (Bh F Y p acc k2 n) q'=Bx Y p acc k2 q2∧Q9 Y.1 p Y.1.length q2:=by
    intro q' hq';unfold Bg;rw [ckb (by omega)];exact ih (i+1) q' (by omega) (by omega) hq'
   have one:∀j u',j<i+1→Y.1[j]? = some u'→j<i∨(j=i∧u'=u):=by
    intro j u' hj hg
    by_cases h:j<i
    ·exact .inl h
    ·have:j=i:=by omega
     subst this;rw [hgu] at hg;cases hg
     exact .inr ⟨rfl,rfl⟩
   unfold Jn
   by_cases hs:b.Lo≤b.Hi
   ·rw [Bt (by rw [dT hs];rfl)];rcases hq with ⟨rfl,h0⟩|⟨m,v,b2,rfl,hm,hv,hb2,hs2,h0⟩
    ·rw [Eo (dT (by omega))];refine fin _ (.inr ⟨i,u,b,rfl,by omega,hgu,hb,hs,?_⟩);intro j u' b' hj hg hb' hs';rcases one j u' hj hg with h|⟨rfl,rfl⟩
     ·exact absurd hs' (h0 j u' b' h hg hb')
     ·rw [hb] at hb';cases hb'
      rw [betC_ok.rf];omega
    ·rw [Bt (dF (by omega)),Jr m v rfl hv,Jr p b rfl hb,Jr p b2 rfl hb2,Jr p b rfl hb,Jr p b2 rfl hb2,Lg,Lg,Lg,Lg,Vf,Zy _ (by simp;omega) (by simp),sbd,
      show orL [c3 b.Hi b2.Hi,c3 b.Lo b2.Lo,c3 v.Key.Time u.Key.Time,c3s u.Key.Name v.Key.Name,c3 u.Key.Tilt v.Key.Tilt]=Tv (b,u.Key) (b2,v.Key) from rfl]
     by_cases hlt:Tv (b,u.Key) (b2,v.Key)<0
     ·rw [Eo (dT hlt)];refine fin _ (.inr ⟨i,u,b,rfl,by omega,hgu,hb,hs,?_⟩);intro j u' b' hj hg hb' hs' hbt;rcases one j u' hj hg with h|⟨rfl,rfl⟩
      ·exact h0 j u' b' h hg hb' hs' (betC_ok.tr _ _ _ hbt hlt)
      ·rw [hb] at hb';cases hb'
       rw [betC_ok.rf] at hbt;omega
     ·rw [Bt (dF hlt)];refine fin _ (.inr ⟨m,v,b2,rfl,by omega,hv,hb2,hs2,?_⟩);intro j u' b' hj hg hb' hs';rcases one j u' hj hg with h|⟨rfl,rfl⟩
      ·exact h0 j u' b' h hg hb' hs'
      ·rw [hb] at hb';cases hb'
       exact hlt
   ·rw [Eo (by rw [dF hs];rfl)];refine fin q ?_;rcases hq with ⟨rfl,h0⟩|⟨m,v,b2,rfl,hm,hv,hb2,hs2,h0⟩
    ·refine .inl ⟨rfl,fun j u' b' hj hg hb'=>?_⟩;rcases one j u' hj hg with h|⟨rfl,rfl⟩
     ·exact h0 j u' b' h hg hb'
     ·rw [hb] at hb';cases hb';exact hs
    ·refine .inr ⟨m,v,b2,rfl,by omega,hv,hb2,hs2,fun j u' b' hj hg hb' hs'=>?_⟩;rcases one j u' hj hg with h|⟨rfl,rfl⟩
     ·exact h0 j u' b' h hg hb' hs'
     ·rw [hb] at hb';cases hb';exact absurd hs' hs
  ·rw [Bt (dF (by omega))];have:i=Y.1.length:=by omega
   subst this;exact ⟨q,rfl,hq⟩
theorem Yc {F P:Nat} {Y:YU} (hF:100≤F) (hY:∀u∈Y.1,u.bands.length=P∧u.vals.length=P) (hl:Y.1.length<F) (hl2:Y.1.length≤10000) (hP:P≤10000) :
  ∀(n p:Nat) (acc:List mosaic_Pixel),p≤P→P-p<n→acc.length=p→(∀j x,acc[j]? = some x→Un Y.1 j x)→∃out,B2 F Y (P:Int) n (p:Int) acc=some (out,0,Y.2)∧out.length=P∧∀j x,out[j]? = some x→Un Y.1 j x:=by
 intro n
 induction n with
 | zero=>intro p acc _ h;omega
 | succ n ih =>
  intro p acc hp hn ha hx;rw [B2];unfold Ed
  by_cases hc:p<P
  ·rw [Eo (dT (by omega))];obtain ⟨q,e,hq⟩:=Wh (F:=F) (P:=P) (Y:=Y) (p:=p) (acc:=acc) (k2:=B2 F Y (P:Int) n) hF hY hc hl2 F 0 (-1) (by omega) (by omega) (.inl ⟨rfl,fun j u b h=>by omega⟩);have e':Bh F Y (p:Int) acc (B2 F Y (P:Int) n) F (-1) 0=Bx Y p acc (B2 F Y (P:Int) n) q:=e;rw [e'];have fin:∀x:mosaic_Pixel,Un Y.1 p x→∃out,Ci (p:Int) acc (B2 F Y (P:Int) n) x.Value_.Lo x.Value_.Hi x.Key.Name x.Key.Tilt x.Key.Time=some (out,0,Y.2)∧out.length=P∧∀j x,out[j]? = some x→Un Y.1 j x:=by
    intro x hpx;unfold Ci Eg;rw [Sv (by simp;omega) (by decide),ckb (by omega)];refine ih (p+1) (acc++[x]) (by omega) (by omega) (by simp;omega) (fun j y hj=>?_)
    by_cases h:j<acc.length
    ·rw [List.getElem?_append_left h] at hj;exact hx j y hj
    ·rw [List.getElem?_append_right (by omega)] at hj;have:j=p:=by
      have:=(List.getElem?_eq_some_iff.1 hj).1;simp at this;omega
     subst this;rw [ha,Nat.sub_self] at hj
     cases hj;exact hpx
   unfold Bx;rcases hq with ⟨rfl,h0⟩|⟨m,u,b,rfl,hm,hu,hb,hs,h0⟩
   ·rw [Eo (dT (by omega))];refine fin ⟨⟨0,1000000⟩,⟨ByteArray.empty,0,0⟩⟩ (.inl ⟨rfl,fun u hu b hb=>?_⟩);obtain ⟨j,hj,rfl⟩:=List.mem_iff_getElem.1 hu;exact h0 j _ b hj (List.getElem?_eq_getElem hj) hb
   ·have hum:=List.mem_of_getElem? hu;obtain ⟨_,hvl⟩:=hY u hum;obtain ⟨v,hv⟩:∃v,u.vals[p]? = some v:=⟨_,List.getElem?_eq_getElem (by omega)⟩;rw [Bt (dF (by omega)),Jr m u rfl hu,Jr p v rfl hv];refine fin ⟨v,u.Key⟩ (.inr ⟨u,hum,b,v,hb,hs,hv,rfl,fun u' hu' b' hb' hs'=>?_⟩);obtain ⟨j,hj,rfl⟩:=List.mem_iff_getElem.1 hu';exact h0 j _ b' hj (List.getElem?_eq_getElem hj) hb' hs'
  ·rw [Bt (dF (by omega))];unfold Ef;exact ⟨acc,rfl,by omega,hx⟩
theorem Sw {F:Nat} {N:mosaic_Node} {t:Int} (h0:0≤t∧t≤4294967296) (hh:N.horizon≤t):Cn F N t=some 0:=by
 unfold Cn B3;rw [sbd,cond_false,Vu h0,Bt (c:=!true) rfl,Bt (dF (by omega))]
end Go.Proofs.YtkbjbnkkfifbmaaGreat
namespace Go.Proofs.YtkbjbnkkfifbmaaGreat
open Go Go.RowKit Go.Eng
set_option maxRecDepth 10000
set_option linter.unusedVariables false
set_option linter.unusedSimpArgs false
theorem A1a (a b:ByteArray):sEq a b=decide (a=b):=by
 unfold sEq;obtain ⟨a⟩:=a;obtain ⟨b⟩:=b
 by_cases h:a=b
 ·subst h;simp
 ·rw [dF,dF]
  ·intro e;cases e;exact h rfl
  ·intro e;exact h (Array.toList_inj.1 e)
structure RG (F:Nat) (s:mosaic_Spec):Prop where
 g:VG s.Grid
 e:VE s.Earth
 age:1≤s.Age∧s.Age≤86400
 small:pix s≤500
 len:1≤s.Radars.length∧s.Radars.length≤32
 nd:(s.Radars.map (·.Site.Name)).Nodup
 ok:∀r∈s.Radars,VS r.Site∧beam_CheckSite F r.Site=some 0∧(-3600≤r.Offset.Lo∧r.Offset.Lo≤r.Offset.Hi∧r.Offset.Hi≤3600)∧r.Site.Name≠ByteArray.empty
def Uz (B:List (ByteArray×mosaic_Radar)) (l:List mosaic_Radar):List (ByteArray×mosaic_Radar):=l.foldl (fun B r=>upM B r.Site.Name r) B
theorem Ww:∀(l:List mosaic_Radar) (B:List (ByteArray×mosaic_Radar)) (n:ByteArray),(l.map (·.Site.Name)).Nodup→lkM (Uz B l) n=match l.find? (fun r=>r.Site.Name=n) with|some r=>some r|none=>lkM B n:=by
 intro l
 induction l with
 | nil=>intro B n _;rfl
 | cons x l ih =>
  intro B n hn;rw [List.map_cons,List.nodup_cons] at hn;have e:Uz B (x::l)=Uz (upM B x.Site.Name x) l:=rfl;rw [e,ih _ _ hn.2,List.find?_cons]
  by_cases h:x.Site.Name=n
  ·have hnone:l.find? (fun r=>r.Site.Name=n)=none:=by
    rw [List.find?_eq_none];intro r hr hrn;have hrn:r.Site.Name=n:=by simpa using hrn
    exact hn.1 (by rw [h,←hrn];exact List.mem_map_of_mem (f:=(·.Site.Name)) hr)
   rw [hnone,X1,if_pos h.symm];simp [h]
  ·rw [X1,if_neg (fun e=>h e.symm)];simp [h]
theorem W0 {F:Nat} {s:mosaic_Spec} (h:RG F s) (n:ByteArray):lkM (radM s) n=s.Radars.find? (fun r=>r.Site.Name=n):=by
 have:=Ww s.Radars [] n h.nd;unfold radM;refine this.trans ?_
 cases s.Radars.find? (fun r=>r.Site.Name=n)<;>rfl
theorem RG.gs {F:Nat} {s:mosaic_Spec} (h:RG F s):GS F s:=by
 refine ⟨h.g,h.e,h.age,h.small,fun n x hx=>?_⟩;rw [W0 h] at hx;have h1:=List.mem_of_find?_eq_some hx;have h2:x.Site.Name=n:=by simpa using List.find?_some hx
 obtain ⟨a,b,c,d⟩:=h.ok x h1;exact ⟨a,b,c,h2▸d,h2⟩
def Pl (s:mosaic_Spec):mosaic_Node:=⟨s,radM s,0,[],0,[]⟩
theorem X8 {F:Nat} {s:mosaic_Spec} {R:List mosaic_Radar} (hR:R.length≤1000):∀(n i:Nat) (B:List (ByteArray×mosaic_Radar)),i≤R.length→R.length-i<n→Fm s R n B (i:Int)=some (.ok (⟨⟨s.Grid,s.Earth,R,s.Age⟩,Uz B (R.drop i),0,[],0,[]⟩,0)):=by
 intro n
 induction n with
 | zero=>intro i B _ h;omega
 | succ n ih =>
  intro i B hi hn;rw [Fm];unfold Ji
  by_cases hc:i<R.length
  ·rw [Eo (dT (by omega)),Jr i R[i] rfl (List.getElem?_eq_getElem hc),ckb (by omega),List.drop_eq_getElem_cons hc];exact ih (i+1) _ (by omega) (by omega)
  ·rw [Bt (dF (by omega)),List.drop_eq_nil_of_le (by omega)];rfl
end Go.Proofs.YtkbjbnkkfifbmaaGreat
namespace Go.Proofs.YtkbjbnkkfifbmaaGreat
open Go Go.RowKit Go.Eng
set_option maxRecDepth 10000
set_option linter.unusedVariables false
set_option linter.unusedSimpArgs false
def T8 (s:ByteArray):Bool:=(!(sEq s ⟨#[]⟩))&&(decide ((s.size:Int)≤12)&&(decide ((N7 s 0).getD 0≥97)&&(decide ((N7 s 0).getD 0≤122)&&!Xb s)))
theorem V7 (F:Nat) (s:ByteArray):L4 F s=some (T8 s):=by
 have hg:sEq s ⟨#[]⟩=false→N7 s 0=some ((N7 s 0).getD 0):=by
  intro h;have hs:s.size≠0:=by
   intro h0;have:s=⟨#[]⟩:=by
    cases s with
    | mk d =>
     have:d=#[]:=Array.eq_empty_of_size_eq_zero h0;rw [this]
   rw [Sm.2 this] at h
   cases h
  unfold N7;rw [if_pos (by omega)];rfl
 unfold L4 T8 E8
 cases h1:sEq s ⟨#[]⟩ with
 | true=>simp [gd]
 | false =>
  have e:=hg h1;generalize hu:(N7 s 0).getD 0=u at e ⊢;rw [e]
  by_cases h2:(s.size:Int)≤12
  ·by_cases h3:u≥97
   ·simp [gd,h2,h3]
   ·simp [gd,h2,h3]
  ·simp [gd,h2]
theorem Xz (n b0 b1 b2 b3:Nat) (h:128≤b0):128≤(Lib.decodeN n b0 b1 b2 b3).1:=by
 unfold Lib.decodeN
 repeat' split
 all_goals first|(simp only;omega)|omega
theorem Z7 {s:ByteArray} {i:Nat} (h:(s.get! i).toNat<128):Utf8.decode s i=((s.get! i).toNat,1):=by
 rw [Lib.decode_at];unfold Lib.decodeN;rw [if_pos h]
theorem Z6 {s:ByteArray} {i:Nat} (h:128≤(s.get! i).toNat):128≤(Utf8.decode s i).1:=by
 rw [Lib.decode_at];exact Xz _ _ _ _ _ h
theorem Xa {x:Nat} (h:128≤x):nmC x=true:=by
 unfold nmC;have h1:decide (x≤122)=false:=by simp;omega
 have h2:decide (x≤57)=false:=by simp;omega
 have h3:(x==95)=false:=by simp;omega
 rw [h1,h2,h3];simp
theorem Qc (s:ByteArray):∀(f pos:Nat),s.size≤pos+f→(0≤Lib.idxFuncFrom nmC true s f pos↔∃j,pos≤j∧j<s.size∧nmC (s.get! j).toNat=true):=by
 intro f
 induction f with
 | zero =>
  intro pos h;rw [Lib.idxFuncFrom_end nmC true s 0 pos (by omega)];constructor
  ·intro h;omega
  ·rintro ⟨j,h1,h2,_⟩;omega
 | succ f ih =>
  intro pos h;rw [Lib.idxFuncFrom]
  by_cases hp:pos<s.size
  ·rw [if_pos hp]
   by_cases hb:(s.get! pos).toNat<128
   ·rw [Z7 hb];simp only
    by_cases hn:nmC (s.get! pos).toNat=true
    ·rw [if_pos hn];exact ⟨fun _=>⟨pos,Nat.le_refl _,hp,hn⟩,fun _=>by omega⟩
    ·rw [if_neg hn,ih (pos+1) (by omega)];constructor
     ·rintro ⟨j,h1,h2,h3⟩;exact ⟨j,by omega,h2,h3⟩
     ·rintro ⟨j,h1,h2,h3⟩;refine ⟨j,?_,h2,h3⟩;rcases Nat.lt_or_ge pos j with h4|h4
      ·omega
      ·obtain rfl:j=pos:=by omega
       exact absurd h3 hn
   ·rw [if_pos (Xa (Z6 (by omega)))];exact ⟨fun _=>⟨pos,Nat.le_refl _,hp,Xa (by omega)⟩,fun _=>by omega⟩
  ·rw [if_neg hp];constructor
   ·intro h;omega
   ·rintro ⟨j,h1,h2,_⟩;omega
theorem Y6 {s:ByteArray} {i:Nat} (h:i<s.size):s[i]=s.get! i:=by
 cases s with
 | mk d =>
  show d[i]=d[i]!;rw [getElem!_pos d i h]
theorem V1 {s:ByteArray} {i:Nat} (h:i<s.size):N7 s i=some (((s.get! i).toNat:Nat):Int):=by
 unfold N7;rw [if_pos (by omega),Int.toNat_natCast,getElem!_pos s i h,Y6 h]
theorem Vv (s:ByteArray):∀(m i f:Nat),s.size-i<m→i≤s.size→s.size≤1000000→s.size≤i+f→Fo s m i=some (!decide (0≤Lib.idxFuncFrom nmC true s f i)):=by
 intro m
 induction m with
 | zero=>intro i f h;omega
 | succ m ih =>
  intro i f h hi h9 hf;rw [Fo,Jj]
  by_cases hb:i<s.size
  ·rw [Eo (dT (by omega)),V1 hb,sbd];have hx:=UInt8.toNat_lt (s.get! i);generalize hu:(s.get! i).toNat=u at *;have e:(bif (bif (bif (decide (((u:Nat):Int)<97)) then true else (decide (((u:Nat):Int)>122))) then (bif (decide (((u:Nat):Int)<48)) then true else (decide (((u:Nat):Int)>57))) else false) then (((u:Nat):Int) != 95) else false)=nmC u:=by
    unfold nmC;rw [Bool.eq_iff_iff];simp only [cond_eq_ite,Bool.if_true_left,Bool.and_eq_true,Bool.or_eq_true,decide_eq_true_eq,bne_iff_ne,ne_eq,Bool.not_eq_true',Bool.or_eq_false_iff,Bool.and_eq_false_iff,decide_eq_false_iff_not,beq_eq_false_iff_ne,Bool.if_false_right];omega
   rw [e]
   by_cases hn:nmC u=true
   ·rw [Eo hn,dT ((Qc s f i hf).2 ⟨i,Nat.le_refl _,hb,by rw [hu];exact hn⟩)];rfl
   ·rw [Bt (by simpa using hn),ckb (by omega),show ((i:Int)+1)=((i+1:Nat):Int) by omega,ih (i+1) f (by omega) (by omega) h9 (by omega)];rw [decide_eq_decide.2];rw [Qc s f (i+1) (by omega),Qc s f i hf];constructor
    ·rintro ⟨j,h1,h2,h3⟩;exact ⟨j,by omega,h2,h3⟩
    ·rintro ⟨j,h1,h2,h3⟩;refine ⟨j,?_,h2,h3⟩;rcases Nat.lt_or_ge i j with h4|h4
     ·omega
     ·obtain rfl:j=i:=by omega
      rw [hu] at h3;exact absurd h3 hn
  ·rw [Bt (dF (by omega)),Jk,dF]
   ·rfl
   ·rw [Qc s f i hf];rintro ⟨j,h1,h2,_⟩;omega
theorem Yh (s:ByteArray):sEq s ⟨#[]⟩=decide (s.size=0):=by
 unfold sEq
 cases s with
 | mk d =>
  show decide (d.toList=[])=decide (d.size=0);rw [decide_eq_decide];constructor
  ·intro h;have:=congrArg List.length h;simpa using this
  ·intro h;rw [Array.eq_empty_of_size_eq_zero h]
theorem X7 {F:Nat} (hF:100≤F) (s:ByteArray):Kk F s=some (T8 s):=by
 rw [Kk];unfold T8 Xb;rw [Yh]
 by_cases h1:s.size=0∨s.size>12
 ·have hc:(bif (decide (((s.size:Nat):Int)<1)) then true else (decide (((s.size:Nat):Int)>12)))=true:=by
   rcases h1 with h|h
   ·rw [dT (by omega)];rfl
   ·rw [dT (show ((s.size:Nat):Int)>12 by omega)];cases decide (((s.size:Nat):Int)<1)<;>rfl
  rw [hc,gdF (by rfl),sbd,Eo (c:=true) rfl,gdF (by rfl),sbd];simp only [cond_true];rcases h1 with h|h
  ·rw [dT h];rfl
  ·rw [dF (show ¬((s.size:Nat):Int)≤12 by omega)];cases decide (s.size=0)<;>rfl
 ·have hc:(bif (decide (((s.size:Nat):Int)<1)) then true else (decide (((s.size:Nat):Int)>12)))=false:=by
   rw [dF (by omega),dF (by omega)];rfl
  have hg:N7 s 0=some (((s.get! 0).toNat:Nat):Int):=V1 (i:=0) (by omega);rw [hc,gdT (by rfl),hg,sbd,Bt (c:=false) rfl,dF (show ¬s.size=0 by omega),dT (show ((s.size:Nat):Int)≤12 by omega)];rw [Option.getD_some];generalize hu:(((s.get! 0).toNat:Nat):Int)=u
  by_cases h2:u<97
  ·rw [dT h2,gdF (by rfl),sbd,Eo (c:=true) rfl,Eo (c:=true) rfl,dF (show ¬u≥97 by omega)];rfl
  ·rw [dF h2,gdT (by rfl),sbd,Bt (c:=false) rfl,dT (show u≥97 by omega)]
   by_cases h3:u>122
   ·rw [dT h3,Eo (c:=true) rfl,dF (show ¬u≤122 by omega)];rfl
   ·rw [dF h3,Bt (c:=false) rfl,dT (show u≤122 by omega),show (0:Int)=((0:Nat):Int) from rfl,Vv s F 0 s.size (by omega) (by omega) (by omega) (by omega)];rfl
theorem Re (x lo hi:Int):Af x lo hi=A8 x lo hi:=rfl
theorem Xj {F:Nat} (hF:100≤F) (s:api_Site):E2 F s=beam_CheckSite F s:=by
 rw [E2,beam_CheckSite,X7 hF,V7,sbd,sbd];simp only [Re,Cc,By]
 cases T8 s.Name<;>cases A8 s.X (-1048576) 1048576<;>cases A8 s.Y (-1048576) 1048576<;>cases A8 s.Z 0 20000<;>cases A8 s.Rose 1 90<;>cases A8 s.Gates 1 200<;>cases A8 s.Step 50 2000<;>cases A8 s.Width 0 8<;>rfl
end Go.Proofs.YtkbjbnkkfifbmaaGreat
namespace Go.Proofs.YtkbjbnkkfifbmaaGreat
open Go Go.RowKit Go.Eng
set_option maxRecDepth 10000
set_option linter.unusedVariables false
set_option linter.unusedSimpArgs false
instance lawfulBA:LawfulBEq ByteArray where
 eq_of_beq:=fun h=>(baE _ _).1 h
 rfl:=(baE _ _).2 rfl
def Md (r:mosaic_Radar):ref11_Radar:=⟨r.Site,r.Offset⟩
def Hv (s:mosaic_Spec):ref11_Spec:=⟨s.Grid,s.Earth,s.Radars.map Md,s.Age⟩
def nms (s:mosaic_Spec):List ByteArray:=s.Radars.map (·.Site.Name)
theorem Xm {s:mosaic_Spec} (h:s.Radars.length≤1000):∀(n i:Nat) (acc:List ref11_Radar),i≤s.Radars.length→s.Radars.length-i<n→acc.length=i→Fk s n acc (i:Int)=some ⟨s.Grid,s.Earth,acc++(s.Radars.drop i).map Md,s.Age⟩:=by
 intro n
 induction n with
 | zero=>intro i _ _ h;omega
 | succ n ih =>
  intro i acc hi hn ha;rw [Fk];unfold Jg
  by_cases hc:i<s.Radars.length
  ·rw [Eo (dT (by omega)),Jr i s.Radars[i] rfl (List.getElem?_eq_getElem hc),Sv (by simp;omega) (by decide),ckb (by omega),List.drop_eq_getElem_cons hc,List.map_cons];have:=ih (i+1) (acc++[Md s.Radars[i]]) (by omega) (by omega) (by simp;omega);rw [List.append_assoc,List.singleton_append] at this;exact this
  ·rw [Bt (dF (by omega)),List.drop_eq_nil_of_le (by omega)];unfold Jh;rw [List.map_nil,List.append_nil]
theorem Xn {F:Nat} {s:mosaic_Spec} (hF:500≤F) (h:s.Radars.length≤100):Ez F s=some (Hv s):=by
 have:=Xm (s:=s) (by omega) F 0 [] (by omega) (by omega) rfl;rw [List.drop_zero,List.nil_append] at this;exact this
theorem isS {c:Bool} {x y:Option Int} (hx:∃e,x=some e) (hy:∃e,y=some e):∃e,(bif c then x else y)=some e:=by
 cases c
 ·exact hy
 ·exact hx
theorem A0u (F:Nat) (s:api_Site):∃e,beam_CheckSite F s=some e:=by
 unfold beam_CheckSite Cc By;rw [V7,sbd];have o:∀a:Int,∃e,some a=some e:=fun a=>⟨a,rfl⟩
 repeat' first|exact o _|refine isS ?_ ?_
theorem A07 (g:api_Grid):C6 g=Av g:=by
 unfold C6 Av Bj;rw [Re,Re,Re,Re,Re]
 cases A8 g.X (-1048576) 1048576<;>cases A8 g.Y (-1048576) 1048576<;>cases A8 g.Size 1 10000<;>cases A8 g.Wide 1 64<;>cases A8 g.High 1 64<;>rfl
theorem A06 {g:api_Grid} (h:Av g=0):VG g:=by
 have w:∀n a b,A8 n a b=true→a≤n∧n≤b:=by
  intro n a b h;unfold A8 at h
  by_cases h1:a≤n
  ·rw [dT h1] at h;exact ⟨h1,of_decide_eq_true (show decide (n≤b)=true from h)⟩
  ·rw [dF h1] at h;cases h
 unfold Av Bj at h
 cases h1:A8 g.X (-1048576) 1048576 with
 | false=>rw [h1] at h;simp at h
 | true =>
  cases h2:A8 g.Y (-1048576) 1048576 with
  | false=>rw [h1,h2] at h;simp at h
  | true =>
   cases h3:A8 g.Size 1 10000 with
   | false=>rw [h1,h2,h3] at h;simp at h
   | true =>
    cases h4:A8 g.Wide 1 64 with
    | false=>rw [h1,h2,h3,h4] at h;simp at h
    | true =>
     cases h5:A8 g.High 1 64 with
     | false=>rw [h1,h2,h3,h4,h5] at h;simp at h
     | true=>exact ⟨w _ _ _ h1,w _ _ _ h2,w _ _ _ h3,w _ _ _ h4,w _ _ _ h5⟩
theorem Xq (v:api_Span) (a b:Int):Ex v a b=Bf v a b:=by
 unfold Ex Bf
 by_cases h1:v.Lo≤v.Hi
 ·rw [dT h1]
  by_cases h2:a≤v.Lo
  ·rw [dT h2]
  ·rw [dF h2];rfl
 ·rw [dF h1]
  cases decide (a≤v.Lo)<;>rfl
theorem Vn {s:mosaic_Spec} {i:Nat} {k2:Int→Option Int} {u:ref11_Radar} (hi:i<s.Radars.length) (hl:s.Radars.length≤1000):∀(n j:Nat),j≤i→i-j<n →
  Do (Hv s) (i:Int) k2 u n (j:Int)=bif decide (u.Site.Name∈((nms s).take i).drop j) then some 5 else G7 (i:Int) k2 u:=by
 intro n
 induction n with
 | zero=>intro j _ h;omega
 | succ n ih =>
  intro j hj hn;rw [Do];unfold Hp;have hlen:((nms s).take i).length=i:=by unfold nms;simp;omega
  by_cases hc:j<i
  ·have hg:(Hv s).Radars[j]? = some (Md s.Radars[j]):=by
    show (s.Radars.map Md)[j]? = _;rw [List.getElem?_map,List.getElem?_eq_getElem (by omega)];rfl
   have hnj:((nms s).take i)[j]'(by omega)=s.Radars[j].Site.Name:=by unfold nms;simp
   rw [Eo (dT (by omega)),Jr j _ rfl hg,A1a,List.drop_eq_getElem_cons (show j<((nms s).take i).length by omega),hnj]
   by_cases e:s.Radars[j].Site.Name=u.Site.Name
   ·rw [Eo (dT (show (Md s.Radars[j]).Site.Name=u.Site.Name from e)),Eo (dT (by rw [e];exact .head _))]
   ·rw [Bt (dF (show ¬(Md s.Radars[j]).Site.Name=u.Site.Name from e)),ckb (by omega)];refine (ih (j+1) hc (by omega)).trans ?_
    by_cases hm:u.Site.Name∈((nms s).take i).drop (j+1)
    ·rw [dT hm,dT (List.mem_cons_of_mem _ hm)]
    ·rw [dF hm,dF (fun h=>(List.mem_cons.1 h).elim (fun h=>e h.symm) hm)]
  ·rw [Bt (dF (by omega)),List.drop_eq_nil_of_le (by omega),dF (fun h=>by cases h),cond_false]
theorem Xw {F:Nat} {s:mosaic_Spec} (hF:500≤F) (hl:s.Radars.length≤100):∀(n i:Nat) (B:List (ByteArray×Bool)),i≤s.Radars.length→s.Radars.length-i<n→(∀nm,(lkM B nm).getD false=decide (nm∈(nms s).take i)) →
  ∃e,Dx F s n B (i:Int)=some e∧Ct F (Hv s) n (i:Int)=some e:=by
 intro n
 induction n with
 | zero=>intro i B _ h;omega
 | succ n ih =>
  intro i B hi hn hB;rw [Dx,Ct];unfold Gt Ho;have hlen:(Hv s).Radars.length=s.Radars.length:=by show (s.Radars.map Md).length=_;rw [List.length_map]
  rw [hlen]
  by_cases hc:i<s.Radars.length
  ·have hg:(Hv s).Radars[i]? = some (Md s.Radars[i]):=by
    show (s.Radars.map Md)[i]? = _;rw [List.getElem?_map,List.getElem?_eq_getElem hc];rfl
   obtain ⟨e,he⟩:=A0u F s.Radars[i].Site;rw [Eo (dT (by omega)),Jr i s.Radars[i] rfl (List.getElem?_eq_getElem hc),he,sbd,Eo (dT (by omega)),Jr i _ rfl hg];have he2:E2 F (Md s.Radars[i]).Site=some e:=by rw [Xj (by omega)];exact he
   rw [he2,sbd]
   by_cases h0:e=0
   ·subst h0;rw [Bt (c:=(0:Int) != 0) rfl,Bt (c:=(0:Int) != 0) rfl];have hin:=Vn (s:=s) (i:=i) (k2:=Ct F (Hv s) n) (u:=Md s.Radars[i]) hc (by omega) F 0 (Nat.zero_le _) (by omega);rw [List.drop_zero] at hin;rw [show Do (Hv s) (i:Int) (Ct F (Hv s) n) (Md s.Radars[i]) F 0=_ from hin,hB]
    by_cases hm:s.Radars[i].Site.Name∈(nms s).take i
    ·rw [Eo (dT hm),Eo (dT (show (Md s.Radars[i]).Site.Name∈(nms s).take i from hm))];exact ⟨_,rfl,rfl⟩
    ·rw [Bt (dF hm),Bt (dF (show ¬(Md s.Radars[i]).Site.Name∈(nms s).take i from hm))];unfold G7;rw [Xq,show (Md s.Radars[i]).Offset=s.Radars[i].Offset from rfl]
     cases Bf s.Radars[i].Offset (-3600) 3600 with
     | false=>exact ⟨_,rfl,rfl⟩
     | true =>
      rw [Bt (c:=!true) rfl,Bt (c:=!true) rfl,ckb (by omega)];unfold Hq;rw [ckb (by omega)];refine ih (i+1) _ hc (by omega) (fun nm=>?_);have hd:(nms s).take (i+1)=(nms s).take i++[s.Radars[i].Site.Name]:=by
       unfold nms;rw [List.take_succ_eq_append_getElem (by simpa using hc)];simp
      rw [X1,hd]
      by_cases e:nm=s.Radars[i].Site.Name
      ·rw [if_pos e,dT (by rw [e];simp)];rfl
      ·rw [if_neg e,hB]
       by_cases hm2:nm∈(nms s).take i
       ·rw [dT hm2,dT (List.mem_append.2 (.inl hm2))]
       ·rw [dF hm2,dF (fun h=>(List.mem_append.1 h).elim hm2 (fun h=>e (List.mem_singleton.1 h)))]
   ·rw [Eo (by simpa using h0),Eo (by simpa using h0)];exact ⟨_,rfl,rfl⟩
  ·rw [Bt (dF (by omega)),Bt (dF (by omega))];exact ⟨0,rfl,rfl⟩
theorem chk {F:Nat} {s:mosaic_Spec} (hF:500≤F) (hl:s.Radars.length≤100):∃e,Bl F s=some e∧De F (Hv s)=some e∧(e=0→VG s.Grid):=by
 unfold Bl De;have hlen:(Hv s).Radars.length=s.Radars.length:=by show (s.Radars.map Md).length=_;rw [List.length_map]
 rw [show (Hv s).Grid=s.Grid from rfl,A07,hlen,show (Hv s).Earth=s.Earth from rfl,show (Hv s).Age=s.Age from rfl];unfold H8;rw [Xq,show Af s.Age 1 86400=B5 s.Age 1 86400 from rfl]
 by_cases hg:Av s.Grid=0
 ·rw [hg,Bt (c:=(0:Int) != 0) rfl,Bt (c:=(0:Int) != 0) rfl];have hv:=A06 hg
  cases (bif (!(Bf s.Earth 1000000 100000000)) then true else (!(B5 s.Age 1 86400))) with
  | true=>exact ⟨3,rfl,rfl,fun _=>hv⟩
  | false =>
   rw [cond_false,cond_false]
   cases (((s.Radars.length:Nat):Int)==0) with
   | true=>exact ⟨18,rfl,rfl,fun _=>hv⟩
   | false =>
    rw [cond_false,cond_false]
    cases (decide (((s.Radars.length:Nat):Int)>32)) with
    | true=>exact ⟨9,rfl,rfl,fun _=>hv⟩
    | false =>
     obtain ⟨e,h1,h2⟩:=Xw hF hl F 0 [] (Nat.zero_le _) (by omega) (fun nm=>by rw [List.take_zero,dF (fun h=>by cases h)];rfl)
     exact ⟨e,h1,h2,fun _=>hv⟩
 ·rw [Eo (by simpa using hg),Eo (by simpa using hg)];exact ⟨_,rfl,rfl,fun h=>absurd h hg⟩
theorem Y4 {s:mosaic_Spec} (hl:s.Radars.length≤1000):∀(n i:Nat),i≤s.Radars.length→s.Radars.length-i<n→∃b,Gb s n (i:Int)=some b:=by
 intro n
 induction n with
 | zero=>intro i _ h;omega
 | succ n ih =>
  intro i hi hn;rw [Gb];unfold K6
  by_cases hc:i<s.Radars.length
  ·rw [Eo (dT (by omega)),Jr i s.Radars[i] rfl (List.getElem?_eq_getElem hc)]
   cases decide (((s.Radars[i].Site.Name.size:Nat):Int)>40) with
   | true=>exact ⟨_,rfl⟩
   | false =>
    rw [cond_false,ckb (by omega)];exact ih (i+1) hc (by omega)
  ·rw [Bt (dF (by omega))];exact ⟨_,rfl⟩
theorem Za {F:Nat} {s:mosaic_Spec} (hF:500≤F):∃b,L8 F s=some b∧(b=true→s.Grid.Wide≤6∧s.Grid.High≤6∧s.Radars.length≤100):=by
 unfold L8
 by_cases h1:s.Grid.Wide>6
 ·rw [dT h1];exact ⟨false,rfl,fun h=>by cases h⟩
 ·by_cases h2:s.Grid.High>6
  ·rw [dF h1,dT h2];exact ⟨false,rfl,fun h=>by cases h⟩
  ·by_cases h3:((s.Radars.length:Nat):Int)>100
   ·rw [dF h1,dF h2,dT h3];refine ⟨false,?_,fun h=>by cases h⟩
    cases (bif (decide (((s.Radars.length:Nat):Int)>5)) then (decide (((s.Radars.length:Nat):Int)≤32)) else false)<;>rfl
   ·rw [dF h1,dF h2,dF h3]
    cases (bif (decide (((s.Radars.length:Nat):Int)>5)) then (decide (((s.Radars.length:Nat):Int)≤32)) else false) with
    | true=>exact ⟨false,rfl,fun h=>by cases h⟩
    | false =>
     obtain ⟨b,hb⟩:=Y4 (s:=s) (by omega) F 0 (Nat.zero_le _) (by omega);exact ⟨b,hb,fun _=>⟨by omega,by omega,by omega⟩⟩
end Go.Proofs.YtkbjbnkkfifbmaaGreat
namespace Go.Proofs.YtkbjbnkkfifbmaaGreat
open Go Go.RowKit Go.Eng
set_option maxRecDepth 10000
set_option linter.unusedVariables false
set_option linter.unusedSimpArgs false
def gapM:mosaic_Pixel:=⟨⟨0,1000000⟩,⟨ByteArray.empty,0,0⟩⟩
def gapR:ref11_Pixel:=⟨⟨0,1000000⟩,⟨ByteArray.empty,0,0⟩⟩
theorem W9:Dw ([]:List mosaic_Key)=[]:=by
 have h:(R5 Ep ([]:List mosaic_Key)).length=0:=(Kx Ep Qr []).1;exact List.length_eq_zero_iff.1 h
theorem P6 {F:Nat} {N:mosaic_Node} (h:N.kept=[]):Dd F N=some []:=by
 unfold Dd;rw [h,if_pos (show ([]:List (mosaic_Key×List (List api_Span))).length≤1000000 from Nat.zero_le _)];exact congrArg some W9
theorem Wg {F:Nat} {N:mosaic_Node} {t:Int} (hF:1≤F) (h:N.kept=[]):Dy F N t=some ([],N.looks):=by
 obtain ⟨n,rfl⟩:∃n,F=n+1:=⟨F-1,by omega⟩;unfold Dy;rw [P6 h,sbd,Dl];unfold F3;rw [Bt (c:=decide ((0:Int)<((([]:List mosaic_Key).length:Nat):Int))) rfl];unfold F4;rw [P6 h,sbd,Dk];unfold F2;rw [Bt (c:=decide ((0:Int)<((([]:List mosaic_Key).length:Nat):Int))) rfl];rfl
theorem map_nil {F P:Nat} {N:mosaic_Node} (hF:500≤F) (hP:P≤100) (h:N.kept=[]) (h0:N.horizon=0) (hg:N.spec.Grid.Wide*N.spec.Grid.High=(P:Int)):Cm F N 0=some (List.replicate P gapM,0,N.looks):=by
 obtain ⟨out,e,hl,hx⟩:=Yc (F:=F) (P:=P) (Y:=([],N.looks)) (by omega) (fun u hu=>by cases hu) (by show 0<F;omega) (by show 0≤10000;omega) (by omega) F 0 [] (Nat.zero_le _) (by omega) rfl (fun j x hj=>by simp at hj)
 have eo:out=List.replicate P gapM:=by
  rw [List.eq_replicate_iff];refine ⟨hl,fun x hxo=>?_⟩;obtain ⟨j,hj⟩:=List.mem_iff_getElem?.1 hxo;rcases hx j x hj with ⟨h,_⟩|⟨u,hu,_⟩
  ·exact h
  ·cases hu
 unfold Cm;rw [Sw (by omega) (by omega),sbd,Bt (c:=(0:Int) != 0) rfl,Wg (by omega) h,sbd,hg,ckb (by omega),←eo];exact e
theorem Ur {F:Nat} {r:ref11_Node} (h:r.h=0):E0 F (some r) 0=some 0:=by
 unfold E0;rw [show Af 0 0 4294967296=true from rfl,Bt (c:=!true) rfl,sbd,h];rfl
theorem Tr {F:Nat} {r:ref11_Node} {t:Int} (hF:1≤F) (h:r.l=[]):Dg F (some r) t=some []:=by
 obtain ⟨n,rfl⟩:∃n,F=n+1:=⟨F-1,by omega⟩;unfold Dg;rw [D5];unfold Ej;rw [sbd,h,Bt (c:=decide ((0:Int)<((([]:List ref11_Message).length:Nat):Int))) rfl];rfl
theorem Wv {F P:Nat} {t:Int} {r:ref11_Node} {d:ref11_Pixel} (hP:P≤100):∀(n i:Nat),i≤P→P-i<n→Co F t r (P:Int) n (i:Int) (List.replicate i gapR++List.replicate (P-i) d)=Dm F t r (List.replicate P gapR):=by
 intro n
 induction n with
 | zero=>intro i _ h;omega
 | succ n ih =>
  intro i hi hn;rw [Co];unfold Fa
  by_cases hc:i<P
  ·have hd:List.replicate (P-i) d=d::List.replicate (P-(i+1)) d:=by
    rw [show P-i=(P-(i+1))+1 by omega,List.replicate_succ]
   have hg:(List.replicate i gapR++List.replicate (P-i) d)[i]? = some d:=by
    rw [List.getElem?_append_right (by simp),hd];simp
   have hs:Ug (List.replicate i gapR++List.replicate (P-i) d) (i:Int) gapR=some (List.replicate (i+1) gapR++List.replicate (P-(i+1)) d):=by
    unfold Ug;rw [if_pos (by simp;omega),hd,Int.toNat_natCast,List.set_append_right _ _ (by simp)]
    congr 1
    rw [List.length_replicate,Nat.sub_self,List.set_cons_zero,List.replicate_succ',List.append_assoc,List.singleton_append]
   rw [Eo (dT (by omega)),Jr i d rfl hg];rw [show Ug (List.replicate i gapR++List.replicate (P-i) d) (i:Int) (ref11_Pixel.mk (api_Span.mk 0 1000000) (ref11_Key.mk ByteArray.empty 0 0))=some (List.replicate (i+1) gapR++List.replicate (P-(i+1)) d) from hs,sbd,ckb (by omega)];exact ih (i+1) hc (by omega)
  ·have:i=P:=by omega
   subst this;rw [Bt (dF (by omega)),Nat.sub_self,List.replicate_zero,List.append_nil]
theorem U9 {α:Type} {B:Nat} {n:Nat} {v:α} (h:B*n≤1000000) (hn:n≤1000000):mkI B (n:Int) v=some (List.replicate n v):=by
 unfold mkI;rw [if_pos (by rw [Int.toNat_natCast];omega),Int.toNat_natCast]
theorem T6 {F P:Nat} {r:ref11_Node} (hF:500≤F) (hP:P≤100) (h:r.l=[]) (h0:r.h=0) (hg:r.s.Grid.Wide*r.s.Grid.High=(P:Int)):Dz F (some r) 0=some (List.replicate P gapR,0):=by
 have e:=Wv (F:=F) (t:=0) (r:=r) (d:=ref11_Pixel.mk (api_Span.mk 0 0) (ref11_Key.mk ByteArray.empty 0 0)) hP F 0 (Nat.zero_le _) (by omega);unfold Dz;rw [Ur h0,sbd,Bt (c:=(0:Int) != 0) rfl,sbd,hg,ckb (by omega),U9 (by omega) (by omega),sbd,U9 (by omega) (by omega),sbd,U9 (by omega) (by omega),sbd];rw [Nat.sub_zero,List.replicate_zero,List.nil_append] at e;refine Eq.trans e ?_;unfold Dm;rw [Tr (by omega) h,sbd];obtain ⟨n,rfl⟩:∃n,F=n+1:=⟨F-1,by omega⟩;rw [Dn];unfold F9;rw [Bt (c:=decide ((0:Int)<((([]:List ref11_Message).length:Nat):Int))) rfl];rfl
theorem Xx {F P:Nat} {L:List (mosaic_where×List api_Span)} (hF:1≤F) (hP:P≤1000):∀(n i:Nat),i≤P→P-i<n→Bn F ([],L) (P:Int) n (i:Int)=some ([],0,L):=by
 intro n
 induction n with
 | zero=>intro i _ h;omega
 | succ n ih =>
  intro i hi hn;rw [Bn];unfold Cu
  by_cases hc:i<P
  ·rw [Eo (dT (by omega))];obtain ⟨m,rfl⟩:∃m,F=m+1:=⟨F-1,by omega⟩;rw [C8];unfold Cv;rw [Bt (c:=decide ((0:Int)<(((([]:List mosaic_used),L).1.length:Nat):Int))) rfl];unfold Cw;rw [ckb (by omega)];exact ih (i+1) hc (by omega)
  ·rw [Bt (dF (by omega))];rfl
theorem Xy {F P:Nat} {N:mosaic_Node} (hF:500≤F) (hP:P≤100) (h:N.kept=[]) (h0:N.horizon=0) (hg:N.spec.Grid.Wide*N.spec.Grid.High=(P:Int)):Cs F N 0=some ([],0,N.looks):=by
 unfold Cs;rw [Sw (by omega) (by omega),sbd,Bt (c:=(0:Int) != 0) rfl,Wg (by omega) h,sbd,hg,ckb (by omega)];exact Xx (by omega) (by omega) F 0 (Nat.zero_le _) (by omega)
theorem Wl {F P:Nat} {r:ref11_Node} (hF:1≤F) (hP:P≤1000) (hg:r.s.Grid.Wide*r.s.Grid.High=(P:Int)):∀(n i:Nat),i≤P→P-i<n→Bu F (some r) [] n (i:Int)=some ([],0):=by
 intro n
 induction n with
 | zero=>intro i _ h;omega
 | succ n ih =>
  intro i hi hn;rw [Bu];unfold D6;rw [sbd,hg,ckb (by omega)]
  by_cases hc:i<P
  ·rw [Eo (dT (by omega))];obtain ⟨m,rfl⟩:∃m,F=m+1:=⟨F-1,by omega⟩;rw [Cg];unfold D7;rw [Bt (c:=decide ((0:Int)<((([]:List ref11_Message).length:Nat):Int))) rfl];unfold Da;rw [ckb (by omega)];exact ih (i+1) hc (by omega)
  ·rw [Bt (dF (by omega))];rfl
theorem Wm {F P:Nat} {r:ref11_Node} (hF:500≤F) (hP:P≤100) (h:r.l=[]) (h0:r.h=0) (hg:r.s.Grid.Wide*r.s.Grid.High=(P:Int)):D4 F (some r) 0=some ([],0):=by
 have e:=Wl (F:=F) (r:=r) (by omega) (by omega) hg F 0 (Nat.zero_le _) (by omega);unfold D4;rw [Ur h0,sbd,Bt (c:=(0:Int) != 0) rfl,Tr (by omega) h,sbd];obtain ⟨m,hm⟩:∃m,F=m+1:=⟨F-1,by omega⟩;have e7:Be F (some r) [] F=D9 F (some r) []:=by
  generalize hG:Be F (some r) []=G;rw [hm,←hG,Be];unfold D8;rw [Bt (c:=decide ((0:Int)<((([]:List ref11_Message).length:Nat):Int))) rfl,hm]
 rw [e7];exact e
theorem Vg {N:mosaic_Node} {Y:List mosaic_Pixel×Int×List (mosaic_where×List api_Span)} (hl:Y.1.length≤1000):∀(n i:Nat) (acc:List api_Span),i≤Y.1.length→Y.1.length-i<n→acc.length=i→C0 N Y n acc (i:Int)=some (⟨N.spec.Grid,acc++(Y.1.drop i).map (·.Value_)⟩,0,Y.2.2):=by
 intro n
 induction n with
 | zero=>intro i _ _ h;omega
 | succ n ih =>
  intro i acc hi hn ha;rw [C0];unfold Dq
  by_cases hc:i<Y.1.length
  ·rw [Eo (dT (by omega)),Jr i Y.1[i] rfl (List.getElem?_eq_getElem hc),Sv (by simp;omega) (by decide),ckb (by omega),List.drop_eq_getElem_cons hc,List.map_cons];have:=ih (i+1) (acc++[Y.1[i].Value_]) hc (by omega) (by simp;omega);rw [List.append_assoc,List.singleton_append] at this;exact this
  ·rw [Bt (dF (by omega)),List.drop_eq_nil_of_le (by omega),List.map_nil,List.append_nil];rfl
theorem Ty {d:ref11_Node} {Y:List ref11_Pixel×Int} (hl:Y.1.length≤1000):∀(n i:Nat) (acc:List api_Span),i≤Y.1.length→Y.1.length-i<n→acc.length=i→C9 Y d n acc (i:Int)=some (⟨d.s.Grid,acc++(Y.1.drop i).map (·.Value_)⟩,0):=by
 intro n
 induction n with
 | zero=>intro i _ _ h;omega
 | succ n ih =>
  intro i acc hi hn ha;rw [C9];unfold E7
  by_cases hc:i<Y.1.length
  ·rw [Eo (dT (by omega)),Jr i Y.1[i] rfl (List.getElem?_eq_getElem hc),Sv (by simp;omega) (by decide),ckb (by omega),List.drop_eq_getElem_cons hc,List.map_cons];have:=ih (i+1) (acc++[Y.1[i].Value_]) hc (by omega) (by simp;omega);rw [List.append_assoc,List.singleton_append] at this;exact this
  ·rw [Bt (dF (by omega)),List.drop_eq_nil_of_le (by omega),List.map_nil,List.append_nil];rfl
theorem Wc {a:List api_Span} (hl:a.length≤1000):∀(n i:Nat),i≤a.length→a.length-i<n→Es a a n (i:Int)=some true:=by
 intro n
 induction n with
 | zero=>intro i _ h;omega
 | succ n ih =>
  intro i hi hn;rw [Es];unfold Hj
  by_cases hc:i<a.length
  ·rw [Eo (dT (by omega)),Jr i a[i] rfl (List.getElem?_eq_getElem hc),Jr i a[i] rfl (List.getElem?_eq_getElem hc),Bt (by simp),ckb (by omega)];exact ih (i+1) hc (by omega)
  ·rw [Bt (dF (by omega))];rfl
theorem W7 {F P:Nat} {N:mosaic_Node} {p1:Option ref11_Node} {t:Int} {L:List (mosaic_where×List api_Span)} (hP:P≤100):∀(n i:Nat),i≤P→P-i<n→Er F N p1 t (List.replicate P gapM,0,L) (List.replicate P gapR,0) n (i:Int)=Fy F N p1 t (List.replicate P gapM,0,L):=by
 intro n
 induction n with
 | zero=>intro i _ h;omega
 | succ n ih =>
  intro i hi hn;rw [Er];unfold Hh;rw [show (List.replicate P gapM,(0:Int),L).1=List.replicate P gapM from rfl,List.length_replicate,show (List.replicate P gapR,(0:Int)).1=List.replicate P gapR from rfl]
  by_cases hc:i<P
  ·have g1:(List.replicate P gapM)[i]? = some gapM:=by rw [List.getElem?_replicate,if_pos hc]
   have g2:(List.replicate P gapR)[i]? = some gapR:=by rw [List.getElem?_replicate,if_pos hc]
   rw [Eo (dT (by omega)),Jr i _ rfl g1,Jr i _ rfl g2];have e1:(((gapM.Value_.Lo:Int)==gapR.Value_.Lo)&&(((gapM.Value_.Hi:Int)==gapR.Value_.Hi)&&true))=true:=by kernel_rfl
   have e2:((gapM.Key.Name==gapR.Key.Name)&&(((gapM.Key.Tilt:Int)==gapR.Key.Tilt)&&(((gapM.Key.Time:Int)==gapR.Key.Time)&&true)))=true:=by kernel_rfl
   rw [e1,gdT (g:=((!true)==false&&true)) rfl,Jr i _ rfl g1,gdT (g:=((!true)==false&&true)) rfl,Jr i _ rfl g2,e2,Bt (c:=bif (!true) then true else (!true)) rfl,ckb (by omega)];exact ih (i+1) hc (by omega)
  ·rw [Bt (dF (by omega))]
theorem W8 {F P:Nat} {N:mosaic_Node} {r:ref11_Node} (hF:500≤F) (hP:P≤100) (h:N.kept=[]) (h0:N.horizon=0) (hg:N.spec.Grid.Wide*N.spec.Grid.High=(P:Int)) (hr:r.l=[]) (hr0:r.h=0) (hrg:r.s.Grid=N.spec.Grid):Fx F N (some r) 0=some (true,N.looks):=by
 have hg2:r.s.Grid.Wide*r.s.Grid.High=(P:Int):=by rw [hrg];exact hg
 unfold Fx;rw [map_nil hF hP h h0 hg,sbd,T6 hF hP hr hr0 hg2,sbd];rw [show (List.replicate P gapM,(0:Int),N.looks).1=List.replicate P gapM from rfl,show (List.replicate P gapR,(0:Int)).1=List.replicate P gapR from rfl,List.length_replicate,List.length_replicate];rw [Bt (c:=bif ((List.replicate P gapM,(0:Int),N.looks).2.1 != (List.replicate P gapR,(0:Int)).2) then true else (((P:Nat):Int) != ((P:Nat):Int))) (by simp)];refine (W7 hP F 0 (Nat.zero_le _) (by omega)).trans ?_;unfold Fy;rw [show (mosaic_Node.mk N.spec N.radars N.horizon N.kept N.count (List.replicate P gapM,(0:Int),N.looks).2.2)=N from rfl,Xy hF hP h h0 hg,sbd,Wm hF hP hr hr0 hg2,sbd];rw [Bt (c:=bif ((([]:List mosaic_Clash),(0:Int),N.looks).2.1 != (([]:List ref11_Clash),(0:Int)).2) then true else (((([]:List mosaic_Clash),(0:Int),N.looks).1.length:Int) != ((([]:List ref11_Clash),(0:Int)).1.length:Int))) rfl];obtain ⟨m,hm⟩:∃m,F=m+1:=⟨F-1,by omega⟩;have e3:Di F N (some r) 0 ([],0,N.looks) ([],0) F 0=Fz F N (some r) 0 ([],0,N.looks):=by
  generalize hG:Di F N (some r) 0 ([],0,N.looks) ([],0)=G;rw [hm,←hG,Di];unfold Hg;rw [Bt (c:=decide ((0:Int)<(((([]:List mosaic_Clash),(0:Int),N.looks).1.length:Nat):Int))) rfl,hm]
 refine Eq.trans e3 ?_;unfold Fz;rw [show (mosaic_Node.mk N.spec N.radars N.horizon N.kept N.count (([]:List mosaic_Clash),(0:Int),N.looks).2.2)=N from rfl];have f1:Dj F N 0=some (⟨N.spec.Grid,(List.replicate P gapM).map (·.Value_)⟩,0,N.looks):=by
  unfold Dj;rw [map_nil hF hP h h0 hg,sbd,Bt (c:=(List.replicate P gapM,(0:Int),N.looks).2.1 != 0) rfl];have:=Vg (N:=N) (Y:=(List.replicate P gapM,0,N.looks)) (by simp;omega) F 0 [] (Nat.zero_le _) (by simp;omega) rfl;rw [List.drop_zero,List.nil_append] at this;exact this
 have f2:E6 F (some r) 0=some (⟨r.s.Grid,(List.replicate P gapR).map (·.Value_)⟩,0):=by
  unfold E6;rw [T6 hF hP hr hr0 hg2,sbd,Bt (c:=(List.replicate P gapR,(0:Int)).2 != 0) rfl,sbd];have:=Ty (d:=r) (Y:=(List.replicate P gapR,0)) (by simp;omega) F 0 [] (Nat.zero_le _) (by simp;omega) rfl;rw [List.drop_zero,List.nil_append] at this;exact this
 have ev:(List.replicate P gapM).map (·.Value_)=(List.replicate P gapR).map (·.Value_):=by simp [gapM,gapR]
 have hs:Jm F ((List.replicate P gapR).map (·.Value_)) ((List.replicate P gapR).map (·.Value_))=some true:=by
  unfold Jm;rw [Bt (by simp)];exact Wc (by simp;omega) F 0 (Nat.zero_le _) (by simp;omega)
 rw [f1,sbd,f2,sbd,ev,hrg];have eg:(((N.spec.Grid.X:Int)==N.spec.Grid.X)&&(((N.spec.Grid.Y:Int)==N.spec.Grid.Y)&&(((N.spec.Grid.Size:Int)==N.spec.Grid.Size)&&(((N.spec.Grid.Wide:Int)==N.spec.Grid.Wide)&&(((N.spec.Grid.High:Int)==N.spec.Grid.High)&&true)))))=true:=by simp
 rw [eg,gdT (g:=(true==true&&true)) rfl,hs,sbd];rfl
end Go.Proofs.YtkbjbnkkfifbmaaGreat
namespace Go.Proofs.YtkbjbnkkfifbmaaGreat
open Go Go.RowKit Go.Eng
set_option maxRecDepth 10000
set_option linter.unusedVariables false
set_option linter.unusedSimpArgs false
theorem Sr:Cr 2000=some true:=by kernel_rfl
def V9:List Int:=[82,68,77,49,0,0,198,120,253,87]
theorem Zv:C4 2000 [] 2000 0 [82,68,77,49,0,0]=some V9:=by kernel_rfl
theorem A0b:C2 2000 [82,68,77,49] 0=some [82,68,77,49,0]:=by kernel_rfl
theorem A0c:C2 2000 [82,68,77,49,0] 0=some [82,68,77,49,0,0]:=by kernel_rfl
theorem A0d:Cq 2000 0=some [0]:=by kernel_rfl
theorem Zw:Cz 2000 [82,68,77,49,0,0]=some V9:=by kernel_rfl
theorem Wf {F:Nat} {N:mosaic_Node} (hF:1≤F) (h:N.kept=[]):Eu F N=some []:=by
 obtain ⟨n,rfl⟩:∃n,F=n+1:=⟨F-1,by omega⟩;unfold Eu;rw [P6 h,sbd,D3];unfold Eh;rw [Bt (c:=decide ((0:Int)<((([]:List mosaic_Key).length:Nat):Int))) rfl];rfl
theorem A0w {N:mosaic_Node} (h:N.kept=[]) (h0:N.horizon=0) (h1:N.count=0):Bi 2000 N=some V9:=by
 unfold Bi B3;rw [sbd,cond_false,h0,h1,A0b,sbd,A0c,sbd,Wf (by omega) h,sbd];exact Zv
theorem A0x {r:ref11_Node} (h:r.l=[]) (h0:r.h=0):Bs 2000 (some r)=some V9:=by
 unfold Bs;rw [sbd,h0,h,A0d,sbd,Sv (by decide) (by decide),show ((([]:List ref11_Message).length:Nat):Int)=0 from rfl,A0d,sbd,Sv (by decide) (by decide),Ca];unfold Cy;rw [h,Bt (c:=decide ((0:Int)<((([]:List ref11_Message).length:Nat):Int))) rfl];exact Zw
theorem Wu {ε α β:Type} {x:α} {f:ε→β} {g:α→β}:exc (.ok x) f g=g x:=rfl
theorem Wt {ε α β:Type} {e:ε} {f:ε→β} {g:α→β}:exc (.error e) f g=f e:=rfl
theorem Fu {N:mosaic_Node} {r:ref11_Node} {P:Nat} (hP:P≤100) (h:N.kept=[]) (h0:N.horizon=0) (h1:N.count=0) (hg:N.spec.Grid.Wide*N.spec.Grid.High=(P:Int)) (hr:r.l=[]) (hr0:r.h=0) (hrg:r.s.Grid=N.spec.Grid) :
  ((Br 2000 N).bind fun y89=>bif (y89==0) then ((Dd 2000 N).bind fun y94=>bif (((y94.length:Nat):Int)==0) then ((Fx 2000 N (some r) 0).bind fun y101=>bif y101.1 then ((Bi 2000 (mosaic_Node.mk N.spec N.radars N.horizon N.kept N.count y101.2)).bind fun y108=>(Bs 2000 (some r)).bind fun y127=>bif (sEq (bst y108) (bst y127)) then ((Cr 2000).bind fun y139=>some y139) else (some false)) else (some false)) else (some false)) else (some false))=some true:=by
 have e1:Br 2000 N=some 0:=by unfold Br B3;rw [sbd,cond_false,h0]
 rw [e1,sbd,Eo (c:=(0:Int)==0) rfl,P6 h,sbd,Eo (c:=((([]:List mosaic_Key).length:Nat):Int)==0) rfl,W8 (by omega) hP h h0 hg hr hr0 hrg,sbd];rw [cond_true,A0w (N:=mosaic_Node.mk N.spec N.radars N.horizon N.kept N.count (true,N.looks).2) h h0 h1,sbd,A0x hr hr0,sbd,Eo (Sm.2 rfl),Sr];rfl
theorem A15 {s:mosaic_Spec} (h:Bl 2000 s=some 0) (hl:s.Radars.length≤100):G1 2000 s=some (.ok (Pl s,0)):=by
 unfold G1 Ax;rw [h,sbd,Bt (c:=(0:Int) != 0) rfl,Sv (by simp;omega) (by decide),List.nil_append,sbd];exact X8 (F:=2000) (by omega) 2000 0 [] (by omega) (by omega)
theorem X9 {s:ref11_Spec} (h:De 2000 s=some 0) (hl:s.Radars.length≤100):H9 2000 s=some (.ok (⟨s,0,[]⟩,0)):=by
 unfold H9;rw [h,sbd,Bt (c:=(0:Int) != 0) rfl,Sv (by simp;omega) (by decide),List.nil_append]
theorem Q6 (s:mosaic_Spec):Dh 2000 s=some true:=by
 obtain ⟨b,hb,hb2⟩:=Za (s:=s) (F:=2000) (by omega);unfold Dh;rw [hb,sbd]
 cases b with
 | false=>rw [Eo (c:=!false) rfl,Sr];rfl
 | true =>
  obtain ⟨g1,g2,g3⟩:=hb2 rfl;obtain ⟨e,c1,c2,c3⟩:=chk (F:=2000) (by omega) g3;have hs:=Xn (F:=2000) (by omega) g3;rw [Bt (c:=!true) rfl]
  by_cases he:e=0
  ·subst he;have hlen:(Hv s).Radars.length=s.Radars.length:=by show (s.Radars.map Md).length=_;rw [List.length_map]
   have hv:=c3 rfl;obtain ⟨_,_,_,w1,w2⟩:=hv;have hm:=A14 (x:=s.Grid.Wide) (y:=s.Grid.High) (A:=6) (B:=6) (by omega) (by omega);rw [A15 c1 g3,sbd,Wu,hs,sbd,X9 c2 (by omega),sbd,Wu,c1,sbd,sbd,c2,sbd,Bt (c:=bif ((0:Int) != 0) then true else (((Pl s,(0:Int)).2) != (((⟨Hv s,0,[]⟩:ref11_Node),(0:Int)).2))) rfl,sbd,
    Bt (c:=bif (((Pl s,(0:Int)).2) != 0) then true else (!(false==(((Pl s,(0:Int)).2) != 0)))) rfl,Bt (c:=((Pl s,(0:Int)).2) != 0) rfl]
   exact Fu (N:=Pl s) (r:=⟨Hv s,0,[]⟩) (P:=(s.Grid.Wide*s.Grid.High).toNat) (by omega) rfl rfl rfl (by show s.Grid.Wide*s.Grid.High=_;omega) rfl rfl rfl
  ·have n1:G1 2000 s=some (.error e):=by
    unfold G1;rw [c1,sbd,Eo (by simpa using he)]
   have n2:H9 2000 (Hv s)=some (.error e):=by
    unfold H9;rw [c2,sbd,Eo (by simpa using he)]
   rw [n1,sbd,Wt,hs,sbd,n2,sbd,Wt,c1,sbd,sbd,c2,sbd];have e1:(e != e)=false:=by simp
   have e2:(e != 0)=true:=by simpa using he
   rw [e1,e2,Bt (c:=bif false then true else false) rfl,sbd,e1,Bt (c:=bif false then true else (!(true==true))) rfl,cond_true,Sr];rfl
end Go.Proofs.YtkbjbnkkfifbmaaGreat
