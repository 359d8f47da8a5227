import Derived.Test.YtjfhcbjhjeklbaaGreatT3EE
import Derived.RecoverIn
import Derived.ProofKit
import Derived.OpenShut
import Derived.ChangeOld
import Derived.Carry
import Derived.DataElems
import Derived.Laws.StructEq
import Derived.Shelf.SlSortCmp.WholeK
import Derived.Shelf.SlSortCmp.NoneTotal
import Derived.Laws.BytesString
import Derived.Lib.ConvBytes
import Derived.LoopNIn
import Derived.Lib.Bytes
import Derived.Lib.Bytealg
import Derived.Lib.Strings
import Derived.Shelf.GgClosure.StringsIndexFunc
import Derived.Lib.LaidTab
import Derived.Lib.ItoaMem
import Derived.Lib.UnsafeStr
import Derived.MapKept
import Derived.Scope
import Derived.Maps.RangeRun
import Derived.Lib.AppendZerosOnto
import Derived.Laws.Externs
set_option linter.unusedVariables false
set_option linter.unusedSimpArgs false
set_option linter.unusedSectionVars false
namespace Go.Eng
open Go Go.RowKit
variable {α β γ κ:Type} {o:Oper} {f:α->List Value} {r:Option Nat} {g k sz cap b n m j N ty bytes scap id xt:Nat} {x y:Int} {c:List (List Value)} {l xs l' l3:List α} {P:Program} {T:World->World->Prop} {D:World->Prop} {w w' w0:World} {cs args:Array Value} {ad sad:Option Addr} {u:α} {a:Act} {H:List Res} {R:Ending->World->Prop} {ys:List β} {ops:Array Oper} {Q:Exit->Act->World->Prop} {K K':Act->World->Prop} {ds:List Deferred} {M M':List (Nat×Value)} {v:Value} {tt kt:TypeId} {eff rest done:List Nat} {obs:List Ob} {css:List (List α)} {S:α->β->Prop} {fn:Func} {fs:Array Field} {kf:κ->Value} {es:List MapEntry} {ρ:Operand->Value} {news:List Value} {Bv:List (κ×Value)}
def ck (x:Int):Option Int:=if -9223372036854775808<=x/\x<=9223372036854775807 then some x else none
def Mc (x y:Int):Option Int:=if y=0 then none else ck (x.tdiv y)
def J9 (x y:Int):Option Int:=if y=0 then none else some (x.tmod y)
def Cj {α:Type} (l:List α) (i:Int):Option α:=if 0<=i then l[i.toNat]? else none
def A4r {α:Type} (l:List α) (i:Int) (x:α):Option (List α):=if 0<=i/\i<l.length then some (l.set i.toNat x) else none
def K4 {α:Type} (l:List α) (lo hi:Int):Option (List α):=if 0<=lo/\lo<=hi/\hi<=l.length then some ((l.drop lo.toNat).take (hi.toNat-lo.toNat)) else none
def apd {α:Type} (B:Nat) (l k:List α):Option (List α):=if (l.length+k.length)*B<=140737488355328/\l.length+k.length<=9223372036854775807 then some (l++k) else none
def mkI {α:Type} (B:Nat) (n:Int) (x:α):Option (List α):=if 0<=n/\B*n.toNat<=281474976710656/\n<=9223372036854775807 then some (List.replicate n.toNat x) else none
def gd {α:Type} (g:Bool) (o:Option α) (d:α):Option α:=bif g then o else some d
theorem A4 {o:Option α} {f:α->Option β} {r:β} (h:o.bind f=some r):∃x,o=some x/\f x=some r:=Option.bind_eq_some_iff.1 h
theorem Ec {g:Bool} {o:Option α} {d x:α} (h:gd g o d=some x) (b:g=true):o=some x:=by subst b;exact h
theorem H0 {c:Bool} {x y z:α} (h:(bif c then x else y)=z) (b:c=true):x=z:=by subst b;exact h
theorem Gz {c:Bool} {x y z:α} (h:(bif c then x else y)=z) (b:c=false):y=z:=by subst b;exact h
theorem Va (h:ck x=some y):y=x/\-9223372036854775808<=x/\x<=9223372036854775807:=by
 unfold ck at h
 split at h
 ·cases h;exact ⟨rfl,by assumption⟩
 ·cases h
theorem Pn {i:Int} {x:α} (h:Cj l i=some x):0<=i/\i<l.length/\l[i.toNat]? = some x:=by
 unfold Cj at h
 split at h
 ·have:=(List.getElem?_eq_some_iff.1 h).1;exact ⟨by assumption,by omega,h⟩
 ·cases h
section
variable {cs:List Cd} {t:TypeId} {z:Int}
theorem A1d (h:Bc cs=true->ck (x+y)=some z):Ob.ok P T D (.run cs (binOp .add t (.int .i64 x) (.int .i64 y)) (.int .i64 z)) :=
 obC λb=>by obtain ⟨rfl,hb⟩:=Va (h b);exact B5w hb
theorem Wp (h:Bc cs=true->ck (x-y)=some z):Ob.ok P T D (.run cs (binOp .sub t (.int .i64 x) (.int .i64 y)) (.int .i64 z)) :=
 obC λb=>by obtain ⟨rfl,hb⟩:=Va (h b);exact B5z hb
theorem B3p (h:Bc cs=true->ck (x*y)=some z):Ob.ok P T D (.run cs (binOp .mul t (.int .i64 x) (.int .i64 y)) (.int .i64 z)) :=
 obC λb=>by obtain ⟨rfl,hb⟩:=Va (h b);exact B5y hb
theorem B3q (h:Bc cs=true->Mc x y=some z):Ob.ok P T D (.run cs (binOp .quo t (.int .i64 x) (.int .i64 y)) (.int .i64 z)) :=
 obC λb=>by
  have h:=h b;unfold Mc at h
  split at h
  ·cases h
  ·obtain ⟨rfl,hb⟩:=Va h;have:=B3r (P:=P) (T:=T) (D:=D) (cs:=cs) (t:=t) (x:=x) (y:=y) (by assumption)
   rwa [Go.Eng.wrap64 hb] at this
theorem A4d (h:Bc cs=true->J9 x y=some z):Ob.ok P T D (.run cs (binOp .rem t (.int .i64 x) (.int .i64 y)) (.int .i64 z)) :=
 obC λb=>by
  have h:=h b;unfold J9 at h
  split at h
  ·cases h
  ·cases h;exact B3s (by assumption)
theorem Kg {src dst:TypeId} {k:IntKind} (hs:(P.underlying src).isSome=true) (hd:P.underlying dst=some (.int .i64)) (h:Bc cs=true->ck x=some z) :
  Ob.ok P T D (.run cs (convert src dst (.int k x)) (.int .i64 z)):=obC λb=>by obtain ⟨rfl,hb⟩:=Va (h b);exact B3o hs hd hb
theorem A5j {i:Nat} {d:α} (h:l[i]? = some u):l.getD i d=u:=by rw [List.getD_eq_getElem?_getD,h];rfl
end
abbrev Frz:=Nat->Option Obj
variable {μ ν:Frz}
def Frz.le (μ ν:Frz):Prop:=∀b o,μ b=some o->ν b=some o
def FrzAt (μ:Frz) (w:World):Prop:=∀b o,μ b=some o->w.heap[b]? = some o
def Cv (w:World):Frz:=λb=>w.heap[b]?
def Frz.ext (n:Nat) (μ ν:Frz):Prop:=μ.le ν/\∀b o,ν b=some o->b<n->μ b=some o
def Ak (w0:World) (μ:Frz):Prop:=∀b o,b<w0.heap.size->μ b=some o->w0.heap[b]? = some o
def Eo (n:Nat) (μ:Frz):Res where
 foot:=λb=>n<=b/\∃o,μ b=some o
 holds:=λw=>∀b o,n<=b->μ b=some o->w.heap[b]? = some o
 loc:=λw w' h hb b o hn ho=>(h b ⟨hn,o,ho⟩).trans (hb b o hn ho)
 lt:=λw b hb hk=>by obtain ⟨hn,o,ho⟩:=hk;exact (Array.getElem?_eq_some_iff.1 (hb b o hn ho)).1
theorem Frz.le_refl (μ:Frz):μ.le μ:=λ_ _ h=>h
theorem Frz.le_trans {a b c:Frz} (h:a.le b) (k:b.le c):a.le c:=λx o d=>k x o (h x o d)
theorem Frz.ext_refl (n:Nat) (μ:Frz):μ.ext n μ:=⟨μ.le_refl,λ_ _ h _=>h⟩
theorem Frz.ext_trans {a b c:Frz} (h:a.ext n b) (k:b.ext n c):a.ext n c:=⟨Frz.le_trans h.1 k.1,λx o e d=>h.2 x o (k.2 x o e d) d⟩
theorem Frz.ext_mono {a b:Frz} (h:a.ext n b) (d:m<=n):a.ext m b:=⟨h.1,λx o c e=>h.2 x o c (by omega)⟩
theorem Au (w:World):FrzAt (Cv w) w:=λ_ _ h=>h
theorem FrzAt.le_mem (h:FrzAt μ w):μ.le (Cv w):=h
theorem FrzAt.low (h:FrzAt ν w) (c:μ.le ν):FrzAt μ w:=λb o hb=>h b o (c b o hb)
section
variable {R:Res}
theorem FrzAt.init (h:FrzAt μ w0):Ak w0 μ/\St w0 [Eo w0.heap.size μ] w0 :=
 ⟨λb o _ hb=>h b o hb,(St.init w0).push (Ext.refl w0) (λb o _ hb=>h b o hb) (λ_ hb=>hb.1)⟩
theorem St.frz {i:Nat} (h:St w0 H w) (hi:H[i]? = some (Eo w0.heap.size μ)) (e:Ak w0 μ):FrzAt μ w:=λb o hb=>by
 rcases Nat.lt_or_ge b w0.heap.size with c|d
 ·exact h.ext.block (e b o c hb)
 ·exact h.res hi b o d hb
theorem St.freezeT {i:Nat} (h:St w0 H w) (hi:H[i]? = some (Eo w0.heap.size μ)) (hj:H[j]? = some R) (c4:i≠j) (hl:Ak w0 μ) :
  ∃ν,μ.ext w0.heap.size ν/\Ak w0 ν/\St w0 ((H.set i (Eo w0.heap.size ν)).eraseIdx j) w/\(∀w',FrzAt ν w'->R.holds w')/\∀b,R.foot b->μ b=none/\(∃o,ν b=some o)/\w0.heap.size<=b:=by
 classical
 have hR:=h.res hj;have b4:R∈H:=List.mem_of_getElem? hj;refine ⟨λb=>if R.foot b then w.heap[b]? else μ b,⟨λb o hb=>?_,λb o hb hn=>?_⟩,λb o n hb=>?_,?_,λw' c6=>?_,λb c=>?_⟩
 ·by_cases c:R.foot b
  ·simp only [if_pos c];exact h.frz hi hl b o hb
  ·simp only [if_neg c];exact hb
 ·have c:¬R.foot b:=λc=>by have:=h.low R b4 b c;omega
  simp only [if_neg c] at hb;exact hb
 ·have c:¬R.foot b:=λc=>by have:=h.low R b4 b c;omega
  simp only [if_neg c] at hb;exact hl b o n hb
 ·
  have l:i<H.length:=(List.getElem?_eq_some_iff.1 hi).1;have d1:j<H.length:=(List.getElem?_eq_some_iff.1 hj).1;have b1:∀S,S∈(H.set i (Eo w0.heap.size λb=>if R.foot b then w.heap[b]? else μ b)).eraseIdx j->S=Eo w0.heap.size (λb=>if R.foot b then w.heap[b]? else μ b)\/∃k,k≠i/\k≠j/\H[k]? = some S:=by
   intro S hS;obtain ⟨k,f⟩:=List.mem_iff_getElem?.1 hS;rw [List.getElem?_eraseIdx] at f
   by_cases x:k<j
   ·rw [if_pos x] at f
    by_cases d:k=i
    ·subst d;rw [List.getElem?_set_self l] at f;cases f;exact .inl rfl
    ·rw [List.getElem?_set_ne (Ne.symm d)] at f;exact .inr ⟨k,d,by omega,f⟩
   ·rw [if_neg x] at f
    by_cases d:k+1=i
    ·rw [d,List.getElem?_set_self l] at f;cases f;exact .inl rfl
    ·rw [List.getElem?_set_ne (Ne.symm d)] at f;exact .inr ⟨k+1,d,by omega,f⟩
  have apart:∀(p q:Nat) (S S':Res),p≠q->H[p]? = some S->H[q]? = some S'->∀b,S.foot b->¬S'.foot b:=by
   intro p q S S' b9 hp hq b hb g;have r:=(List.getElem?_eq_some_iff.1 hp).1;have s:=(List.getElem?_eq_some_iff.1 hq).1;have e1:H[p]=S:=(List.getElem?_eq_some_iff.1 hp).2;have e2:H[q]=S':=(List.getElem?_eq_some_iff.1 hq).2;rcases Nat.lt_or_gt_of_ne b9 with n|b5
   ·have:=List.pairwise_iff_getElem.1 h.apart p q r s n;rw [e1,e2] at this;exact this b hb g
   ·have:=List.pairwise_iff_getElem.1 h.apart q p s r b5;rw [e1,e2] at this;exact this b g hb
  have b2:∀k S,k≠i->k≠j->H[k]? = some S->∀b,(Eo w0.heap.size λb=>if R.foot b then w.heap[b]? else μ b).foot b->¬S.foot b:=by
   intro k S d x f b hb c0;obtain ⟨hn,o,ho⟩:=hb
   by_cases c:R.foot b
   ·exact apart j k R S (Ne.symm x) hj f b c c0
   ·simp only [if_neg c] at ho;exact apart i k _ S (Ne.symm d) hi f b ⟨hn,o,ho⟩ c0
  refine ⟨h.ext,λS hS=>?_,λS hS b hb=>?_,?_⟩
  ·rcases b1 S hS with rfl|⟨k,_,_,f⟩
   ·intro b o hn ho
    by_cases c:R.foot b
    ·simp only [if_pos c] at ho;exact ho
    ·simp only [if_neg c] at ho;exact h.res hi b o hn ho
   ·exact h.res f
  ·rcases b1 S hS with rfl|⟨k,_,_,f⟩
   ·exact hb.1
   ·exact h.low S (List.mem_of_getElem? f) b hb
  ·rw [List.pairwise_iff_getElem];intro p q hp hq b9 b hb g;have key:∀z (hz:z<((H.set i (Eo w0.heap.size λb=>if R.foot b then w.heap[b]? else μ b)).eraseIdx j).length),∃z',(p<q->True)/\((H.set i (Eo w0.heap.size λb=>if R.foot b then w.heap[b]? else μ b))[z']? = some ((H.set i (Eo w0.heap.size λb=>if R.foot b then w.heap[b]? else μ b)).eraseIdx j)[z])/\z'≠j/\(z'=if z<j then z else z+1):=by
    intro z hz;have t:=List.getElem?_eq_getElem hz;rw [List.getElem?_eraseIdx] at t
    by_cases y:z<j
    ·rw [if_pos y] at t;exact ⟨z,λ_=>trivial,t,by omega,by rw [if_pos y]⟩
    ·rw [if_neg y] at t;exact ⟨z+1,λ_=>trivial,t,by omega,by rw [if_neg y]⟩
   obtain ⟨p',_,u,c7,ep⟩:=key p hp;obtain ⟨q',_,m,c8,eq⟩:=key q hq;have b3:p'≠q':=by rw [ep,eq];split<;>split<;>omega
   by_cases b0:p'=i
   ·rw [b0,List.getElem?_set_self l] at u;have v:q'≠i:=λe=>b3 (by rw [b0,e]);rw [List.getElem?_set_ne (Ne.symm v)] at m;rw [←Option.some.inj u] at hb;exact b2 q' _ v c8 m b hb g
   ·rw [List.getElem?_set_ne (Ne.symm b0)] at u
    by_cases v:q'=i
    ·rw [v,List.getElem?_set_self l] at m;rw [←Option.some.inj m] at g;exact b2 p' _ b0 c7 u b g hb
    ·rw [List.getElem?_set_ne (Ne.symm v)] at m;exact apart p' q' _ _ b3 u m b hb g
 ·refine R.loc w w' (λb hb=>?_) hR;have b6:=R.lt w b hR hb;have:w.heap[b]? = some w.heap[b]:=Array.getElem?_eq_getElem b6;rw [this];exact c6 b _ (by simp only [if_pos hb];exact this)
 ·have b6:=R.lt w b hR c;have b7:=h.low R b4 b c;refine ⟨?_,⟨w.heap[b],by simp only [if_pos c];exact Array.getElem?_eq_getElem b6⟩,b7⟩
  cases hm:μ b with
  | none=>rfl
  | some o =>
   exfalso;have r:=(List.getElem?_eq_some_iff.1 hi).1;have s:=(List.getElem?_eq_some_iff.1 hj).1;have e1:=(List.getElem?_eq_some_iff.1 hi).2;have e2:=(List.getElem?_eq_some_iff.1 hj).2;rcases Nat.lt_or_gt_of_ne c4 with n|b5
   ·have:=List.pairwise_iff_getElem.1 h.apart i j r s n;rw [e1,e2] at this;exact this b ⟨b7,o,hm⟩ c
   ·have:=List.pairwise_iff_getElem.1 h.apart j i s r b5;rw [e1,e2] at this;exact this b c ⟨b7,o,hm⟩
theorem St.freeze {i:Nat} (h:St w0 H w) (hi:H[i]? = some (Eo w0.heap.size μ)) (hj:H[j]? = some R) (b:i≠j) (c:Ak w0 μ) :
  ∃ν,μ.ext w0.heap.size ν/\Ak w0 ν/\St w0 ((H.set i (Eo w0.heap.size ν)).eraseIdx j) w/\∀w',FrzAt ν w'->R.holds w':=by
 obtain ⟨ν,h1,d,e,f,_⟩:=h.freezeT hi hj b c;exact ⟨ν,h1,d,e,f⟩
theorem St.frzMerge {i:Nat} {Hn:List Res} (h:St w0 H w) (hi:H[i]? = some (Eo w0.heap.size μ)) (hl:Ak w0 μ) (hx:μ.ext w.heap.size ν) (hQ:St w (Eo w.heap.size ν::Hn) w') :
  Ak w0 ν/\St w0 (Hn++H.set i (Eo w0.heap.size ν)) w':=by
 have c4:=h.ext.size;refine ⟨λb o g hb=>hl b o g (hx.2 b o hb (by omega)),?_⟩;have h1:St w0 (Eo w.heap.size ν::Hn++H) w':=h.madeL hQ;have y:i<H.length:=(List.getElem?_eq_some_iff.1 hi).1;have j:St w0 (Eo w.heap.size ν::Hn) w':=h1.sub (List.sublist_append_left _ _);have e:St w0 H w':=h1.sub (List.sublist_append_right _ _);have u:=List.pairwise_append.1 h1.apart;have z:=List.pairwise_cons.1 u.1;have cases_:∀b o,w0.heap.size<=b->ν b=some o->(Eo w0.heap.size μ).foot b\/(Eo w.heap.size ν).foot b:=by
  intro b o t hb;rcases Nat.lt_or_ge b w.heap.size with g|b7
  ·exact .inl ⟨t,o,hx.2 b o hb g⟩
  ·exact .inr ⟨b7,o,hb⟩
 have l:∀S,S∈H.set i (Eo w0.heap.size ν)->S=Eo w0.heap.size ν\/∃k,k≠i/\H[k]? = some S:=by
  intro S d;obtain ⟨k,f⟩:=List.mem_iff_getElem?.1 d
  by_cases m:k=i
  ·subst m;rw [List.getElem?_set_self y] at f;cases f;exact .inl rfl
  ·rw [List.getElem?_set_ne (Ne.symm m)] at f;exact .inr ⟨k,m,f⟩
 have v:Eo w0.heap.size μ∈H:=List.mem_of_getElem? hi;have apart:∀(p q:Nat) (S S':Res),p≠q->H[p]? = some S->H[q]? = some S'->∀b,S.foot b->¬S'.foot b:=by
  intro p q S S' b0 u hq b hb c;have r:=(List.getElem?_eq_some_iff.1 u).1;have s:=(List.getElem?_eq_some_iff.1 hq).1;have e1:H[p]=S:=(List.getElem?_eq_some_iff.1 u).2;have e2:H[q]=S':=(List.getElem?_eq_some_iff.1 hq).2;rcases Nat.lt_or_gt_of_ne b0 with g|b8
  ·have:=List.pairwise_iff_getElem.1 e.apart p q r s g;rw [e1,e2] at this;exact this b hb c
  ·have:=List.pairwise_iff_getElem.1 e.apart q p s r b8;rw [e1,e2] at this;exact this b c hb
 have b9:∀S,S∈Hn->∀b,(Eo w0.heap.size ν).foot b->¬S.foot b:=by
  intro S d b hb n;obtain ⟨t,o,ho⟩:=hb;rcases cases_ b o t ho with hb|hb
  ·exact u.2.2 S (List.mem_cons_of_mem _ d) _ v b n hb
  ·exact z.1 S d b hb n
 have b1:∀k S,k≠i->H[k]? = some S->∀b,(Eo w0.heap.size ν).foot b->¬S.foot b:=by
  intro k S m f b hb n;obtain ⟨t,o,ho⟩:=hb;rcases cases_ b o t ho with hb|hb
  ·exact apart i k _ S (Ne.symm m) hi f b hb n
  ·exact u.2.2 _ (List.mem_cons_self ..) S (List.mem_of_getElem? f) b hb n
 refine ⟨h1.ext,λS d=>?_,λS d b hb=>?_,?_⟩
 ·rcases List.mem_append.1 d with d|d
  ·exact j.holds S (List.mem_cons_of_mem _ d)
  ·rcases l S d with rfl|⟨k,_,f⟩
   ·intro b o t ho;rcases cases_ b o t ho with hb|hb
    ·obtain ⟨_,o',b2⟩:=hb;have:=e.res hi b o' t b2;rw [this,←hx.1 b o' b2,ho]
    ·exact j.res (i:=0) rfl b o hb.1 ho
   ·exact e.res f
 ·rcases List.mem_append.1 d with d|d
  ·exact j.low S (List.mem_cons_of_mem _ d) b hb
  ·rcases l S d with rfl|⟨k,_,f⟩
   ·exact hb.1
   ·exact e.low S (List.mem_of_getElem? f) b hb
 ·refine List.pairwise_append.2 ⟨z.2,?_,λS d S' c0 b hb c=>?_⟩
  ·rw [List.pairwise_iff_getElem];intro p q r s b0 b hb c;have b3:p<H.length:=by simpa using r
   have b4:q<H.length:=by simpa using s
   by_cases x:p=i
   ·subst x;rw [List.getElem_set_self] at hb;rw [List.getElem_set_ne (by omega)] at c;exact b1 q _ (by omega) (List.getElem?_eq_getElem b4) b hb c
   ·rw [List.getElem_set_ne (Ne.symm x)] at hb
    by_cases b5:q=i
    ·subst b5;rw [List.getElem_set_self] at c;exact b1 p _ x (List.getElem?_eq_getElem b3) b c hb
    ·rw [List.getElem_set_ne (Ne.symm b5)] at c;exact apart p q _ _ (by omega) (List.getElem?_eq_getElem b3) (List.getElem?_eq_getElem b4) b hb c
  ·rcases l S' c0 with rfl|⟨k,_,f⟩
   ·exact b9 S d b c hb
   ·exact u.2.2 S (List.mem_cons_of_mem _ d) S' (List.mem_of_getElem? f) b hb c
end
inductive All2 {α β:Type} (R:α->β->Prop):List α->List β->Prop
 | nil:All2 R [] []
 | cons {x:α} {y:β} {xs:List α} {ys:List β}:R x y->All2 R xs ys->All2 R (x::xs) (y::ys)
def ArrM {α:Type} (μ:Frz) (sz:Nat) (f:α->List Value) (ad:Option Addr) (cap:Nat) (l:List α):Prop:=∀w,FrzAt μ w->Arr w sz f ad l.length cap l
def BlkM (μ:Frz) (b:Nat) (t:TypeId) (cs:Array Value):Prop:=∀w,FrzAt μ w->Blk w b t cs
section
variable {e:Nat}
theorem ArrM.mono (h:ArrM μ sz f ad cap l) (b:μ.le ν):ArrM ν sz f ad cap l:=λw c=>h w (c.low b)
theorem BlkM.mono {t:TypeId} (h:BlkM μ b t cs) (c:μ.le ν):BlkM ν b t cs:=λw d=>h w (d.low c)
theorem ArrM.nil:ArrM μ sz f none 0 ([]:List α):=λ_ _=>Arr.nil
theorem Arr.alike (h:Arr w sz f ad n cap l) (c:FrzAt (Cv w) w'):Arr w' sz f ad n cap l:=by
 obtain ⟨h1,ad',cap',e,d,g,i,m⟩:=h;refine ⟨h1,ad',cap',e,d,g,i,λo=>?_⟩;obtain ⟨a,p,b,q⟩:=m o;have hb:∀k,k<w.heap.size->w'.heap[k]? = w.heap[k]?:=λk r=>by
  have:w.heap[k]? = some w.heap[k]:=Array.getElem?_eq_getElem r;rw [this];exact c k _ this
 refine ⟨a,p,?_,λj u s=>?_⟩
 ·have:=hb _ b;rw [Array.getElem?_eq_getElem b] at this;exact (Array.getElem?_eq_some_iff.1 this).1
 ·have:=q j u s;unfold World.cell? at this ⊢;rw [Rk] at this ⊢;rw [hb _ b];exact this
theorem Arr.toM (h:Arr w sz f ad l.length cap l):ArrM (Cv w) sz f ad cap l:=λ_ b=>h.alike b
theorem ArrM.of_arr (h:∀w,FrzAt ν w->(arr e sz f ad l.length cap l).holds w):ArrM ν sz f ad cap l:=λw b=>⟨rfl,Sl.of_own (h w b).2⟩
theorem E4 {R:α->β->Prop} (h:All2 R xs ys) {i:Int} {y:β} (c:Cj ys i=some y):∃x,Cj xs i=some x/\R x y:=by
 have d:=(Pn c).1;have b:=(Pn c).2.2;unfold Cj;rw [if_pos d]
 clear c d
 generalize i.toNat=k at b
 induction h generalizing k with
 | nil=>simp at b
 | cons e _ ih =>
  cases k with
  | zero=>simp at b;subst b;exact ⟨_,rfl,e⟩
  | succ k=>simp at b;exact ih k b
end
def SK (P:Program) (r:Option Nat) (ops:Array Oper) (k:Nat) (K:Act->World->Prop) (a:Act) (w:World):Prop :=
 ∃o,ops[k]? = some o/\OpG P r ops o a w (λv w'=>K (a.put o.dst v) w')
section
theorem SK.wi (h:SK P r ops k (λa w=>WI P r ops Q (k+1) a w) a w):WI P r ops Q k a w:=by
 obtain ⟨o,ho,h⟩:=h;exact WI.cons ho h (λ_ _ h=>h)
theorem A4j (c:Fr N ds M a) (b:As ops N=true) (ho:plainAt ops k M=some o) (d:(execOp (rhoE (ofM M)) o).run P w=.ok (.value v) w')
  (e:NextM ops k M v M') (next:∀a',Fr N ds M' a'->K a' w'):SK P r ops k K a w:=by
 obtain ⟨h1,f,g⟩:=H7 (r:=r) ho c;refine ⟨o,h1,?_⟩;unfold OpG OpR;rw [if_pos f,g,d];exact next _ (Fp h1 b c e)
theorem B2t (c:Fr N ds M a) (b:As ops N=true) (ho:plainAt ops k M=some o) (d:(execOp (rhoE (ofM M)) o).run P w=.ok .skip w')
  (e:NextM ops k M undef M') (next:∀a',Fr N ds M' a'->K a' w'):SK P r ops k K a w:=by
 obtain ⟨h1,f,g⟩:=H7 (r:=r) ho c;refine ⟨o,h1,?_⟩;unfold OpG OpR;rw [if_pos f,g,d];exact next _ (Fp h1 b c e)
theorem Y7 {s:Sem Value} (c:Fr N ds M a) (b:As ops N=true) (hs:EffAt ops k M s) (d:s.run P w=.ok v w')
  (e:NextM ops k M v M') (next:∀a',Fr N ds M' a'->K a' w'):SK P r ops k K a w:=by
 have hs:=hs.eq
 cases ho:plainAt ops k M with
 | none=>rw [ho] at hs;simp at hs
 | some o =>
  rw [ho] at hs;exact A4j c b ho (A3w hs d).2 e next
theorem B0i (M':Nat->List (Nat×Value)) {t:TypeId} (v:Value) (cs:Array Value) (f:Fr N ds M a) (g:St w0 H w) (c:As ops N=true) (hs:EffAt ops k M (Instr.box t v)) (d:v.cells=cs)
  (i:∀b,NextM ops k M (.pointer (some ⟨b,0,none⟩)) (M' b))
  (next:∀b w' a',Fr N ds (M' b) a'->St w0 (blk b t cs::H) w'->K a' w'):SK P r ops k K a w:=by
 refine Y7 f c hs (v:=.pointer (some ⟨w.heap.size,0,none⟩)) (w':={ w with heap:=w.heap.push (.cells cs t) }) ?_ (i _) ?_
 ·subst d;simp [Instr.box,newVar,newRow]
 ·intro a' e;exact next _ _ a' e (g.push (Tn w _) (A0t w t cs) (λb hb=>by rw [show b=w.heap.size from hb];exact Nat.le_refl _))
theorem A7r (M':Nat->List (Nat×Value)) {t:TypeId} (cs:Array Value) (f:Fr N ds M a) (g:St w0 H w) (d:As ops N=true) (hs:EffAt ops k M (Instr.alloc t true (.tuple #[])))
  (hz:((P.info? t).bind (·.zero)).map Value.cells=some cs) (j:∀b,NextM ops k M (.pointer (some ⟨b,0,none⟩)) (M' b))
  (next:∀b w' a',Fr N ds (M' b) a'->St w0 (blk b t cs::H) w'->K a' w'):SK P r ops k K a w:=by
 refine Y7 f d hs (v:=.pointer (some ⟨w.heap.size,0,none⟩)) (w':={ w with heap:=w.heap.push (.cells cs t) }) ?_ (j _) ?_
 ·cases hi:P.info? t with
  | none=>rw [hi] at hz;simp at hz
  | some i =>
   cases c:i.zero with
   | none=>rw [hi] at hz;simp [c] at hz
   | some z =>
    rw [hi] at hz;simp [c] at hz;subst hz;simp [Instr.alloc,zeroValue,typeInfo,hi,c,newVar,newRow]
 ·intro a' e;exact next _ _ a' e (g.push (Tn w _) (A0t w t cs) (λb hb=>by rw [show b=w.heap.size from hb];exact Nat.le_refl _))
theorem A0c {t:TypeId} {p:Addr} (d:Fr N ds M a) (b:As ops N=true) (hs:StoreAt ops k M t (.pointer (some p)) v) (e:(storeVar t p v).run P w=.ok () w')
  (f:NextM ops k M undef M') (next:∀a',Fr N ds M' a'->K a' w'):SK P r ops k K a w:=by
 have hs:=hs.eq
 cases ho:plainAt ops k M with
 | none=>rw [ho] at hs;simp at hs
 | some o =>
  rw [ho] at hs;simp only [Option.bind_some] at hs
  split at hs
  ·rename_i t' x y c
   simp at hs;obtain ⟨rfl,h1,g⟩:=hs;refine B2t d b ho ?_ f next
   unfold execOp;rw [c];simp [Instr.storeAt,Instr.sureAddr,h1,g,e]
  ·simp at hs
theorem Qw (M':List (Nat×Value)) (i:Nat) {t:TypeId} (off:Nat) (v:Value) (cs':Array Value) (p:Fr N ds M a) (o:St w0 H w) (hi:H[i]? = some (blk b tt cs)) (c:As ops N=true)
  (hs:StoreAt ops k M t (.pointer (some ⟨b,off,none⟩)) v) (l:pureSem P (sizeOf t)=some v.cells.size) (d:v.cells.toList.all Value.oneCell'=true) (e:Nat.ble (off+v.cells.size) cs.size=true) (m:Wv cs off v.cells.toList=cs')
  (q:NextM ops k M undef M') (next:∀w' a',Fr N ds M' a'->St w0 (H.set i (blk b tt cs')) w'->K a' w'):SK P r ops k K a w:=by
 have hb:=o.blk hi;have f:=Bd _ _ l w;have g:=run_storeCells_at P b off tt v.cells.toList 0 cs w hb (by simpa using Nat.le_of_ble_eq_true e) (λu s=>List.all_eq_true.1 d u s);simp only [Nat.add_zero] at g;refine A0c p c hs (w':=w.setRow b cs') ?_ q ?_
 ·subst m;unfold Wv;simp [storeVar,f,g]
 ·intro a' n;refine next _ a' n (o.upd hi rfl rfl rfl (by simp [World.setRow]) (λj _ hj=>setRow_other w b j _ hj) ?_ (λj hj=>.inl hj))
  show (w.setRow b cs').heap[b]? = _;exact setRow_heap w b cs _ tt _ hb
theorem A7z (M':Value->List (Nat×Value)) {f:FuncId} {R:Value->World->Prop} (c:Fr N ds M a) (b:As ops N=true) (hs:CallAt P ops k M f args)
  (d:Calls P f args w (λe w'=>∃v,e=.returned v/\R v w')) (g:∀v,NextM ops k M v (M' v)) (next:∀v w' a',R v w'->Fr N ds (M' v) a'->K a' w'):SK P r ops k K a w:=by
 have hs:=hs.eq
 cases ho:plainAt ops k M with
 | none=>rw [ho] at hs;simp at hs
 | some o =>
  rw [ho] at hs;simp only [Option.bind_some] at hs
  split at hs
  ·rename_i f' args' i
   simp at hs;obtain ⟨rfl,rfl⟩:=hs;obtain ⟨h1,j,l⟩:=H7 (r:=r) ho c;refine ⟨o,h1,?_⟩;unfold OpG OpR;rw [if_pos j,l,Bd _ _ i w];refine Calls.mono d ?_;rintro e w'' ⟨v,rfl,m⟩;exact ⟨v,rfl,next v w'' _ m (Fp h1 b c (g v))⟩
  ·simp at hs
def Fg (P:Program) (f:FuncId) (args:Array Value) (w:World) (R:Value->World->Prop):Prop:=Calls P f args w (λe w'=>∃v,e=.returned v/\R v w')
theorem B2k (M':Value->List (Nat×Value)) {f:FuncId} {R:Value->World->Prop} (c:Fr N ds M a) (b:As ops N=true) (hs:CallAt P ops k M f args)
  (d:Fg P f args w R) (e:∀v,NextM ops k M v (M' v)) (next:∀v w' a',R v w'->Fr N ds (M' v) a'->K a' w'):SK P r ops k K a w:=A7z M' c b hs d e next
theorem Se (M':List (Nat×Value)) {f:FuncId} (c:Fr N ds M a) (b:As ops N=true) (hs:CallAt P ops k M f args)
  (d:Calls P f args w (λe w'=>e=.returned v/\Ext w w')) (g:NextM ops k M v M') (next:∀w' a',Ext w w'->Fr N ds M' a'->K a' w'):SK P r ops k K a w:=by
 have hs:=hs.eq
 cases ho:plainAt ops k M with
 | none=>rw [ho] at hs;simp at hs
 | some o =>
  rw [ho] at hs;simp only [Option.bind_some] at hs
  split at hs
  ·rename_i f' args' i
   simp at hs;obtain ⟨rfl,rfl⟩:=hs;obtain ⟨h1,j,l⟩:=H7 (r:=r) ho c;refine ⟨o,h1,?_⟩;unfold OpG OpR;rw [if_pos j,l,Bd _ _ i w];refine Calls.mono d ?_;rintro e w'' ⟨rfl,m⟩;exact ⟨v,rfl,next w'' _ m (Fp h1 b c g)⟩
  ·simp at hs
variable {e:Nat}
theorem B12 (M':Nat->List (Nat×Value)) {t len:Nat} (parts:Array (Nat×Value)) (cs:Array Value) (l:List α) (g:Fr N ds M a) (i:St w0 H w) (c:As ops N=true) (hs:EffAt ops k M (Instr.buildSlice t len parts))
  (hb:N0 P t len parts=some (e,cs)) (j:∀x,(f x).length=sz) (m:l.length=len) (o:l.flatMap f=cs.toList) (p:Nat.ble len 16777216=true) (q:∀b,NextM ops k M (.slice (some ⟨b,0,none⟩) len len) (M' b))
  (next:∀b w' a',Fr N ds (M' b) a'->St w0 (arr e sz f (some ⟨b,0,none⟩) l.length len l::H) w'->K a' w'):SK P r ops k K a w:=by
 subst m;refine Y7 g c hs (Sx hb) (q _) ?_;intro a' d;have h1:St w0 (blk w.heap.size e cs::H) { w with heap:=w.heap.push (.cells cs e) }:=i.push (Tn w _) (A0t w e cs) (λb hb=>by rw [show b=w.heap.size from hb];exact Nat.le_refl _);have s:=h1.blk_arr (f:=f) (sz:=sz) (l:=l) (n:=l.length) j rfl o (by have:=Nat.le_of_ble_eq_true p;simp only [maxLen];omega);exact next _ _ a' d s
theorem Lh {B:Nat} (h:apd B l l'=some l3):l3=l++l'/\(l.length+l'.length)*B<=140737488355328/\l.length+l'.length<=maxLen:=by
 unfold apd at h
 split at h
 ·cases h;rename_i h;exact ⟨rfl,h.1,h.2⟩
 ·cases h
theorem B51 (M':Option Addr->Nat->List (Nat×Value)) (i:Nat) {t:Nat} (hF:Fr N ds M a) (z:St w0 H w) (hi:H[i]? = some (arr e sz f ad l.length cap l)) (d:As ops N=true)
  (hs:EffAt ops k M (Builtin.append_ #[t,t] ty #[.slice ad l.length cap,.slice sad l'.length scap])) (o:Jl P t e sz bytes=true) (g:Arr w sz f sad l'.length scap l') (h1:∀x∈l',(f x).all Value.oneCell'=true) (p:apd bytes l l'=some l3)
  (hM:∀ad2 cap2,NextM ops k M (.slice ad2 l3.length cap2) (M' ad2 cap2))
  (next:∀ad2 cap2 w' a',Fr N ds (M' ad2 cap2) a'->St w0 (H.set i (arr e sz f ad2 l3.length cap2 l3)) w'->K a' w'):SK P r ops k K a w:=by
 obtain ⟨rfl,hb,q⟩:=Lh p;have m:=z.holds _ (List.mem_of_getElem? hi);obtain ⟨ad2,cap2,w',hr,c,n,hblk⟩:=B1i (ty:=ty) o m.2 g.2 (λu hu=>by
  obtain ⟨x,hx,s⟩:=List.mem_flatMap.1 hu;exact List.all_eq_true.1 (h1 x hx) u s) hb q
 have b:(l++l').length=l.length+l'.length:=List.length_append;refine Y7 hF d hs hr (by rw [←b];exact hM ad2 cap2) ?_;intro a' v;rw [←List.flatMap_append] at c;refine next ad2 cap2 w' a' v (z.upd hi n.os n.tape n.output n.size (λj hj y=>n.block j hj (λe=>y e.symm)) ⟨rfl,?_⟩ ?_)
 ·rw [b];exact c
 ·rw [b];exact hblk
theorem Yp (z:Array Value) (n:Nat):(madeCells z (n*z.size)).toList=(List.replicate n ()).flatMap λ_=>z.toList:=by
 unfold madeCells;simp only [Array.toList_map,Array.toList_range]
 induction n with
 | zero=>simp
 | succ n ih =>
  rw [List.replicate_succ',List.flatMap_append,←ih];rw [show (n+1)*z.size=n*z.size+z.size by rw [Nat.add_mul,Nat.one_mul],List.range_add,List.map_append]
  congr 1
  simp only [List.map_map,List.flatMap_cons,List.flatMap_nil,List.append_nil];apply List.ext_getElem
  ·simp
  ·intro i h1 b;simp at h1 b;simp only [List.getElem_map,List.getElem_range,Function.comp];have:(n*z.size+i)%z.size=i:=by rw [Nat.mul_comm,Nat.mul_add_mod];exact Nat.mod_eq_of_lt b
   rw [this];simp [b]
theorem A90 {B:Nat} {n:Int} {x:α} (h:mkI B n x=some l):0<=n/\l=List.replicate n.toNat x/\B*n.toNat<=281474976710656/\n.toNat<=maxLen:=by
 unfold mkI at h
 split at h
 ·cases h;rename_i h;exact ⟨h.1,rfl,h.2.1,by simp only [maxLen];omega⟩
 ·cases h
theorem B5r (M':Nat->List (Nat×Value)) {t:Nat} {n:Int} (x0:α) {z:Value} (hF:Fr N ds M a) (hS:St w0 H w) (d:As ops N=true) (hs:EffAt ops k M (Instr.makeSlice t (.int .i64 n) (.int .i64 n)))
  (p:Jl P t e sz bytes=true) (hz:(P.info? e).bind (·.zero)=some z) (q:f x0=z.cells.toList) (s:mkI bytes n x0=some l3) (hM:∀b,NextM ops k M (.slice (some ⟨b,0,none⟩) l3.length l3.length) (M' b))
  (next:∀b w' a',Fr N ds (M' b) a'->St w0 (arr e sz f (some ⟨b,0,none⟩) l3.length l3.length l3::H) w'->K a' w'):SK P r ops k K a w:=by
 obtain ⟨h0,rfl,hb,u⟩:=A90 s;obtain ⟨i,z',ht,hi,g,h1,rfl,v,_⟩:=G0 p;have x:z'=z:=by rw [hi] at hz;simp [g] at hz;exact hz
 subst x;have hn:n=(n.toNat:Int):=by omega
 rw [hn] at hs;obtain ⟨w',hr,l,o⟩:=run_make_full (P:=P) w 0 t e i z' sz ht hi g h1 .i64 .i64 n.toNat hb u (Nat.zero_le _);have hx:Ext w w':=⟨o.os,o.tape,o.output,o.size,λj hj=>o.block j hj (by simp)⟩;have c:(List.replicate n.toNat x0).length=n.toNat:=List.length_replicate;refine Y7 hF d hs hr (by have:=hM w.heap.size;rw [c] at this;exact this) ?_;intro a' y;refine next _ w' a' y (hS.push hx ⟨rfl,?_⟩ (λb hb=>by simp [Go.Eng.arr,Value.ownBlock] at hb;omega))
 rw [c];have e1:(List.replicate n.toNat x0).flatMap f=(madeCells z'.cells (n.toNat*sz)).toList:=by
  rw [←v,Yp,←q];generalize n.toNat=m
  induction m with
  | zero=>rfl
  | succ m ih=>simp [List.replicate_succ,ih]
 rw [e1];exact l
theorem A2c (b:∀x,(f x).length=sz) {x':α} {us:List Value} (hj:j+us.length<=sz):∀(l:List α) (i:Nat) (x:α),l[i]? = some x->f x'=(f x).take j++us++(f x).drop (j+us.length) ->
  (l.flatMap f).take (i*sz+j)++us++(l.flatMap f).drop (i*sz+j+us.length)=(l.set i x').flatMap f:=by
 intro l
 induction l with
 | nil=>intro i x h;simp at h
 | cons y l ih =>
  intro i x h c
  cases i with
  | zero =>
   simp at h;subst h;have d:=b y;simp only [Nat.zero_mul,Nat.zero_add,List.flatMap_cons,List.set_cons_zero,c];rw [List.take_append_of_le_length (by omega),List.drop_append_of_le_length (by omega)];simp [List.append_assoc]
  | succ i =>
   simp at h;have:=ih i x h c;have d:=b y;have e1:(i+1)*sz+j=(f y).length+(i*sz+j):=by rw [d,Nat.add_mul];omega
   simp only [List.flatMap_cons,List.set_cons_succ];rw [e1,List.take_length_add_append,Nat.add_assoc,List.drop_length_add_append,←this];simp [List.append_assoc]
theorem Xa {cur us:List β} {p T:Nat} (h1:p+us.length<=T) (b:T<=cur.length):(cur.take p++us++cur.drop (p+us.length)).take T=(cur.take T).take p++us++(cur.take T).drop (p+us.length):=by
 have e1:(cur.take p).length=p:=by rw [List.length_take];omega
 have e2:(cur.take p++us).length=p+us.length:=by rw [List.length_append,e1]
 rw [List.take_append,List.take_append,e1,e2,List.take_take,List.take_take,Nat.min_eq_right (by omega),Nat.min_eq_left (by omega),List.take_of_length_le (l:=us) (by omega),List.drop_take]
theorem A77 {i:Int} {x:α} (h:A4r l i x=some l3):0<=i/\i<l.length/\l3=l.set i.toNat x:=by
 unfold A4r at h
 split at h
 ·cases h;rename_i h;exact ⟨h.1,h.2,rfl⟩
 ·cases h
theorem B6o (M':List (Nat×Value)) (i:Nat) {t:Nat} {j:Int} (off:Nat) (u x:α) (v:Value) (hF:Fr N ds M a) (hS:St w0 H w) (hi:H[i]? = some (arr e sz f ad l.length cap l)) (o:As ops N=true)
  (hs:StoreAt ops k M t (.pointer (some ((Bb ad j sz).add off))) v) (hf:∀x,(f x).length=sz) (hu:Cj l j=some u) (hx:f x=(f u).take off++v.cells.toList++(f u).drop (off+v.cells.toList.length)) (p:Nat.ble (off+v.cells.toList.length) sz=true)
  (b4:pureSem P (sizeOf t)=some v.cells.size) (s:v.cells.toList.all Value.oneCell'=true) (b5:A4r l j x=some l3) (hM:NextM ops k M undef M')
  (next:∀w' a',Fr N ds M' a'->l.length=l3.length->St w0 (H.set i (arr e sz f ad l.length cap l3)) w'->K a' w'):SK P r ops k K a w:=by
 have c:=hS.holds _ (List.mem_of_getElem? hi);obtain ⟨h0,c8,b6⟩:=Pn hu;obtain ⟨_,_,rfl⟩:=A77 b5;have d:=Nat.le_of_ble_eq_true p;rcases c.2.2 with ⟨h',hz⟩|⟨g,cap',cur,h',m,hg,y,b7,c9,n⟩
 ·have:l.length=0:=hz;omega
 ·simp only [Value.slice.injEq,true_and] at h';obtain ⟨rfl,rfl⟩:=h';have d0:j.toNat<l.length:=by omega
  have c2:j.toNat*sz+off+v.cells.toList.length<=l.length*sz:=by
   have:=Nat.mul_le_mul_right sz (show j.toNat+1<=l.length by omega);rw [Nat.add_mul] at this;omega
  have c3:l.length*sz<=cap*sz:=Nat.mul_le_mul_right sz y;have z:(Bb (some ⟨g,0,none⟩) j sz).add off=⟨g,j.toNat*sz+off,none⟩:=by
   unfold Bb;rw [Sr];unfold Addr.add
   split
   ·rename_i h;simp [h]
   ·simp
  rw [z] at hs;have b0:=Bd _ _ b4 w;have b1:=run_storeCells_at P g (j.toNat*sz+off) e v.cells.toList 0 cur w hg (by omega) (λu hu=>List.all_eq_true.1 s u hu);simp only [Nat.add_zero] at b1;have b2:=A2c (f:=f) hf (x':=x) (us:=v.cells.toList) (j:=off) d l j.toNat u b6 hx;have b:l.length=(l.set j.toNat x).length:=by simp
  refine A0c hF o hs (w':=w.setRow g (cur.toList.take (j.toNat*sz+off)++v.cells.toList++cur.toList.drop (j.toNat*sz+off+v.cells.toList.length)).toArray) ?_ hM ?_
  ·simp [storeVar,b0,b1]
  ·intro a' b8;refine next _ a' b8 b (hS.upd hi rfl rfl rfl (by simp [World.setRow]) (λq _ hq=>setRow_other w g q _ (λe=>hq (by simp [Go.Eng.arr,Value.ownBlock,e]))) ⟨b.symm,?_,.inr ⟨g,cap,_,rfl,m,setRow_heap w g cur _ e _ hg,y,b7,?_,?_⟩⟩ (λq hq=>.inl hq))
   ·rw [←b2];have h1:=c.2.1;simp only [List.length_append,List.length_take,List.length_drop] at h1 ⊢;omega
   ·have:cur.toList.length=cur.size:=by simp
    simp only [List.size_toArray,List.length_append,List.length_take,List.length_drop];omega
   ·rw [←b2,←n];have:cur.toList.length=cur.size:=by simp
    exact Xa (by omega) (by omega)
end
def lastW (ops:Array Oper):List Nat->Nat->Option Nat
 | [],_=>none
 | j::l,t=>match lastW ops l t with|some q=>some q|none=>bif (match dstAt ops j with|some d=>Nat.beq d t|none=>false) then some j else none
def B2x (P:Program) (r:Option Nat) (ops:Array Oper) (D:World->Prop) (i:Nat) (a:Act) (v:Value):Prop :=
 ∃o,ops[i]? = some o/\∀a' w',(∀t∈o.looksAt ops,a'.tmps.getD t undef=a.tmps.getD t undef)->D w'->OpG P r ops o a' w' (λv' w''=>v'=v/\w''=w')
def WRun (P:Program) (r:Option Nat) (ops:Array Oper) (D:World->Prop) (eff:List Nat) (K:Act->World->Prop):List Nat->Act->World->Prop
 | [],a,w=>K a w
 | i::l,a,w=>bif eff.contains i then SK P r ops i (λa' w'=>D w'/\WRun P r ops D eff K l a' w') a w else ∃v,B2x P r ops D i a v/\WRun P r ops D eff K l (a.put (dstAt ops i) v) w
def V1 (ops:Array Oper):List Nat->List Nat->Bool
 | _,[]=>true
 | pre,i::l=>(match ops[i]? with|some o=>(o.looksAt ops).all λt=>lastW ops pre t==Kn ops i t|none=>false)&&V1 ops (pre++[i]) l
def S3:List Nat->Bool
 | []=>true
 | i::l=>!l.contains i&&S3 l
section
theorem T3:∀{l:List Nat},S3 l=true->l.Nodup:=by
 intro l
 induction l with
 | nil=>intro _;exact List.nodup_nil
 | cons i l ih =>
  intro h;rw [S3,Bool.and_eq_true] at h;exact List.nodup_cons.2 ⟨by simpa using h.1,ih h.2⟩
theorem Tr:∀{l:List Nat} {t j:Nat},lastW ops l t=some j->j∈l/\dstAt ops j=some t:=by
 intro l
 induction l with
 | nil=>intro t j h;simp [lastW] at h
 | cons i l ih =>
  intro t j h;rw [lastW] at h
  cases b:lastW ops l t with
  | some q=>rw [b] at h;cases h;exact ⟨List.mem_cons_of_mem _ (ih b).1,(ih b).2⟩
  | none =>
   rw [b] at h;simp only at h
   cases hd:dstAt ops i with
   | none=>rw [hd] at h;simp at h
   | some d =>
    rw [hd] at h;simp only at h
    cases hb:Nat.beq d t with
    | false=>rw [hb] at h;simp at h
    | true=>rw [hb] at h;simp at h;rw [Nat.beq_eq] at hb;subst hb;subst h;exact ⟨List.mem_cons_self ..,hd⟩
theorem A45 {l:List Nat} {i t:Nat}:lastW ops (l++[i]) t=if dstAt ops i=some t then some i else lastW ops l t:=by
 induction l with
 | nil =>
  simp only [List.nil_append,lastW]
  cases hd:dstAt ops i with
  | none=>simp
  | some d =>
   by_cases h:d=t
   ·subst h;simp
   ·have:Nat.beq d t=false:=by rw [←Bool.not_eq_true,Nat.beq_eq];exact h
    simp [this,h]
 | cons j l ih =>
  simp only [List.cons_append,lastW,ih]
  by_cases h:dstAt ops i=some t
  ·rw [if_pos h];simp [h]
  ·rw [if_neg h,if_neg h]
theorem getElem?_of_getD {x y:Array Value} {t:Nat} (hs:x.size=y.size) (h:x.getD t undef=y.getD t undef):x[t]? = y[t]?:=by
 rw [Array.getD_eq_getD_getElem?,Array.getD_eq_getD_getElem?] at h
 by_cases b:t<x.size
 ·rw [Array.getElem?_eq_getElem b,Array.getElem?_eq_getElem (by omega)] at h ⊢
  simpa using h
 ·rw [Array.getElem?_eq_none (by omega),Array.getElem?_eq_none (by omega)]
theorem Wb {a':Act} (hs:a'.tmps.size=a.tmps.size) (h:∀t∈o.looksAt ops,a'.tmps.getD t undef=a.tmps.getD t undef):Region.wanted o (yielded ops a'.tmps)=Region.wanted o (yielded ops a.tmps):=by
 unfold Region.wanted
 cases c:o.guard with
 | none=>rfl
 | some jw =>
  obtain ⟨j,want⟩:=jw;simp only;have:yielded ops a'.tmps j=yielded ops a.tmps j:=by
   unfold yielded
   cases hd:(ops[j]?).bind (·.dst) with
   | none=>simp
   | some g =>
    have b:g∈o.looksAt ops:=by
     unfold Oper.looksAt;rw [c];refine List.mem_append_right _ ?_;simp [hd]
    have:=getElem?_of_getD hs (h g b);simp [this]
  rw [this]
theorem X9 {a':Act} (c:plainOp o.op=true) (h:∀t∈o.looksAt ops,a'.tmps.getD t undef=a.tmps.getD t undef):o.semAt r a'.eval=o.semAt r a.eval:=by
 rw [M9 c,M9 c];refine execOp_congr o (λcs b d=>by rw [d] at c;simp [plainOp] at c) ?_;intro x e
 cases x with
 | tmp t=>exact h t (List.mem_append_left _ (List.mem_filterMap.2 ⟨.tmp t,by simpa using e,rfl⟩))
 | const v=>rfl
 | global g=>rfl
 | func f=>rfl
theorem A63 {a':Act} {R:Value->World->Prop} (b:plainOp o.op=true) (hs:a'.tmps.size=a.tmps.size) (h:∀t∈o.looksAt ops,a'.tmps.getD t undef=a.tmps.getD t undef) (c:OpG P r ops o a w R):OpG P r ops o a' w R:=by
 unfold OpG OpR at *;rw [Wb hs h,X9 b h];exact c
structure FIs (ops:Array Oper) (N:Nat) (a0:Act) (vals:Nat->Value) (l:List Nat) (b:Act):Prop where
 size:b.tmps.size=N
 dfs:b.defers=a0.defers
 slot:∀t,b.tmps.getD t undef=(match lastW ops l t with|some j=>vals j|none=>a0.tmps.getD t undef)
theorem FIs.put {a0 b:Act} {vals:Nat->Value} {l:List Nat} {i:Nat} (h:FIs ops N a0 vals l b) (c:As ops N=true) (hi:i<ops.size) (d:i∉l):FIs ops N a0 (Rh vals i v) (l++[i]) (b.put (dstAt ops i) v):=by
 refine ⟨by rw [R8];exact h.size,by rw [Nb];exact h.dfs,λt=>?_⟩;rw [A45]
 by_cases hd:dstAt ops i=some t
 ·rw [if_pos hd,hd];have:t<b.tmps.size:=by
   rw [h.size];exact N7 c (Array.getElem?_eq_getElem hi) (by simpa [dstAt,Array.getElem?_eq_getElem hi] using hd)
  rw [T7 this];simp [Rh]
 ·rw [if_neg hd,Nc hd,h.slot t]
  cases f:lastW ops l t with
  | none=>rfl
  | some j =>
   have:j≠i:=λe=>d (e▸(Tr f).1);simp [Rh,this]
end
def evalL (P:Program) (ops:Array Oper):List Nat->List (Nat×En)->List Value->Option (List (Nat×En)×List Ob)
 | [],E,vs=>match vs with|[]=>some (E,[])|_=>none
 | i::l,E,vs =>
  match ops[i]? with
  | none=>none
  | some o =>
   match Wg P ops E o vs with
   | none=>none
   | some (e,ob,vs') =>
    bif Tk E o.dst e then
     match evalL P ops l (A1g E o.dst e) vs' with
     | none=>none
     | some (E',obs)=>some (E',ob++obs)
    else none
structure EndsL (P:Program) (ops:Array Oper) (rs:List Nat) (M M':List (Nat×Value)) (obs:List Ob):Prop where
 eq:((evalL P ops rs (ofM M) (obs.map Ob.v)).map λx=>(M'.map (λp=>lookE x.1 p.1),x.2))=some (M'.map (λp=>some ⟨[],p.2⟩),obs)
section
theorem Zq (j:As ops N=true) :∀(rs:List Nat) (E E':List (Nat×En)) (vs:List Value) (obs:List Ob) (a:Act),evalL P ops rs E vs=some (E',obs)->A0j E->Obs P (λa b=>b=a) D obs->rs.all (λi=>!eff.contains i)=true ->
  a.tmps.size=N->EnvOk (toA E) a w->(∀a',a'.tmps.size=N->a'.defers=a.defers->EnvOk (toA E') a' w->WRun P r ops D eff K rest a' w)->WRun P r ops D eff K (rs++rest) a w:=by
 intro rs
 induction rs with
 | nil =>
  intro E E' vs obs a h _ _ _ m k next
  cases vs with
  | nil=>simp [evalL] at h;rw [h.1] at k;exact next a m rfl k
  | cons=>simp [evalL] at h
 | cons i rs ih =>
  intro E E' vs obs a h hc c d m k next
  simp only [evalL] at h
  cases ho:ops[i]? with
  | none=>rw [ho] at h;simp at h
  | some o =>
   rw [ho] at h;simp only at h
   cases f:Wg P ops E o vs with
   | none=>rw [f] at h;simp at h
   | some x =>
    obtain ⟨e,ob,vs'⟩:=x;rw [f] at h;simp only at h
    cases n:Tk E o.dst e with
    | false=>rw [n] at h;simp at h
    | true =>
     rw [n] at h;simp only [cond_true] at h
     cases p:evalL P ops rs (A1g E o.dst e) vs' with
     | none=>rw [p] at h;simp at h
     | some y =>
      obtain ⟨E1,obs1⟩:=y;rw [p] at h;simp at h;obtain ⟨rfl,rfl⟩:=h;rw [Obs.append] at c;obtain ⟨h1,h2⟩:=X2 (r:=r) Rg hc f c.1;rw [List.all_cons,Bool.and_eq_true] at d;have q:eff.contains i=false:=by simpa using d.1
      have hd:dstAt ops i=o.dst:=by simp [dstAt,ho]
      rw [List.cons_append,WRun,q];simp only [cond_false];refine ⟨e.val,⟨o,ho,λa' w' hs s=>?_⟩,?_⟩
      ·refine (h2 a' w' s (λt u ψ g=>?_)).mono (λv w'' hh=>⟨hh.2,hh.1⟩);rw [hs t u];have:=k t ψ g;rw [Kz] at g
       cases l:lookE E t with
       | none=>rw [l] at g;simp at g
       | some e'=>rw [l] at g;simp at g;subst g;exact this
      ·rw [hd];refine ih _ _ _ _ _ p (A58 hc h1 n) c.2 d.2 (by rw [R8];exact m) ?_ (λa' z hd' b0=>next a' z (hd'.trans (Nb _ _ _)) b0);rw [A5z];exact k.push (T:=λa b=>b=a) (Q6 _ _) rfl (λt u=>m▸N7 j ho u) rfl
theorem B6g (rs:List Nat) (M':List (Nat×Value)) (e:Fr N ds M a) (d:As ops N=true) (f:rs.all (λi=>!eff.contains i)=true) (g:Obs P (λa b=>b=a) D obs) (h:EndsL P ops rs M M' obs)
  (next:∀a',Fr N ds M' a'->WRun P r ops D eff K rest a' w):WRun P r ops D eff K (rs++rest) a w:=by
 have h:=h.eq
 cases c:evalL P ops rs (ofM M) (obs.map Ob.v) with
 | none=>rw [c] at h;simp at h
 | some x =>
  obtain ⟨E',obs'⟩:=x;rw [c] at h;simp only [Option.map_some,Option.some.injEq,Prod.mk.injEq] at h;obtain ⟨h1,rfl⟩:=h;refine Zq d rs _ _ _ _ a c (Ti M) g f e.size (M6 e w) ?_;intro a' k hd l;refine next a' ⟨k,hd.trans e.defers,λp m=>?_⟩
  have j:lookE E' p.1=some ⟨[],p.2⟩:=List.map_inj_left.1 h1 p m;have:=l p.1 (λv _=>v=(⟨[],p.2⟩:En).val) (by rw [Kz,j];rfl)
  simpa [En.val,Bc] using this
theorem WRun.fin (h:K a w):WRun P r ops D eff K [] a w:=h
end
def fK (k:IntKind) (x:Int):List Value:=[.int k x]
theorem Cr (k:IntKind) (x:Int):(fK k x).length=1:=rfl
def B76 (x:ByteArray):List Value:=[.string x]
theorem A2b (x:ByteArray):(B76 x).length=1:=rfl
section
variable {cs:List Cd} {t:Nat} {l2:List α} {lo hi:Int} {c:List γ} {g:γ->List Value}
theorem Tj (h:K4 l lo hi=some l2):∃a b:Nat,lo=a/\hi=b/\a<=b/\b<=l.length/\l2=(l.drop a).take (b-a)/\l2.length=b-a:=by
 unfold K4 at h
 split at h
 ·rename_i c
  cases h
  refine ⟨lo.toNat,hi.toNat,by omega,by omega,by omega,by omega,rfl,?_⟩;simp;omega
 ·cases h
theorem Arr.cutD (h:Arr w sz f ad n cap l) (c:∀x,(f x).length=sz) (d:K4 l lo hi=some l2):Arr w sz f (Az ad cap lo.toNat sz) l2.length (cap-lo.toNat) l2:=by
 obtain ⟨a,b,rfl,rfl,h1,i,rfl,e⟩:=Tj d;have j:=h.len;have g:=h.le;rw [e,Int.toNat_natCast];exact h.cut c h1 (by omega) (by omega) (Nat.le_refl _)
theorem B1c (e:L5 P t sz=true) (h:Arr w sz g ad l.length cap c) (f:Bc cs=true->K4 l lo hi=some l2) :
  Ob.ok P T D (.run cs (Instr.sliceAt t (.slice ad l.length cap) (some (.int .i64 lo)) (some (.int .i64 hi)) none) (.slice (Az ad cap lo.toNat sz) l2.length (cap-lo.toNat))):=by
 intro d;obtain ⟨a,b,rfl,rfl,h1,k,rfl,i⟩:=Tj (f d);have j:=h.le;rw [i,Int.toNat_natCast];exact A6w (P:=P) (T:=T) (D:=D) (cs:=cs) e (λ_=>⟨h1,by omega⟩) d
theorem T4 (f:L5 P t sz=true) (_h:Arr w sz g ad l.length cap c) (i:Bc cs=true->K4 l lo (l.length:Int)=some l2) :
  Ob.ok P T D (.run cs (Instr.sliceAt t (.slice ad l.length cap) (some (.int .i64 lo)) none none) (.slice (Az ad cap lo.toNat sz) l2.length (cap-lo.toNat))):=by
 intro e;obtain ⟨a,b,rfl,hb,h1,k,rfl,j⟩:=Tj (i e);have d:l.length=b:=by omega
 rw [j,Int.toNat_natCast,←d];exact Yx (P:=P) (T:=T) (D:=D) (cs:=cs) f (λ_=>by omega) e
theorem S6 (f:L5 P t sz=true) (h:Arr w sz g ad l.length cap c) (i:Bc cs=true->K4 l 0 hi=some l2) :
  Ob.ok P T D (.run cs (Instr.sliceAt t (.slice ad l.length cap) none (some (.int .i64 hi)) none) (.slice (Az ad cap (0:Int).toNat sz) l2.length (cap-(0:Int).toNat))):=by
 intro e;obtain ⟨a,b,m,rfl,h1,o,rfl,j⟩:=Tj (i e);have d:a=0:=by omega
 subst d;have k:=h.le;rw [j];have:=A2z (P:=P) (T:=T) (D:=D) (cs:=cs) (n:=l.length) (cap:=cap) (ad:=ad) (hi:=b) f (λ_=>by omega) e
 simpa using this
end
abbrev Rel (α:Type):=Frz->List Value->α->Prop
def Rel.Mono {α:Type} (R:Rel α):Prop:=∀(μ ν:Frz) (cs:List Value) (x:α),μ.le ν->R μ cs x->R ν cs x
def fN (sz:Nat) (cs:List Value):List Value:=(cs++List.replicate sz undef).take sz
theorem C1 (sz:Nat) (cs:List Value):(fN sz cs).length=sz:=by simp [fN]
def Rel.One {α:Type} (sz:Nat) (R:Rel α):Prop:=∀(μ:Frz) (cs:List Value) (x:α),R μ cs x->(fN sz cs).all Value.oneCell'=true
def RpF {α:Type} (f:α->List Value):Rel α:=λ_ cs x=>cs=f x
theorem RpF.mono:(RpF f).Mono:=λ_ _ _ _ _ h=>h
def ArrQ {α:Type} (μ:Frz) (sz:Nat) (R:Rel α) (ad:Option Addr) (cap:Nat) (css:List (List Value)) (l:List α):Prop:=ArrM μ sz (fN sz) ad cap css/\All2 (R μ) css l
def PtM {α:Type} (μ:Frz) (T:TypeId) (R:Rel α) (pa:Option Addr) (x:Option α):Prop :=
 (pa=none/\x=none)\/∃b cs d,pa=some ⟨b,0,none⟩/\x=some d/\BlkM μ b T cs.toArray/\R μ cs d
section
variable {R:Rel α} {css css':List (List Value)}
theorem All2.len {R:α->β->Prop} (h:All2 R xs ys):xs.length=ys.length:=by
 induction h with
 | nil=>rfl
 | cons _ _ ih=>simp [ih]
theorem All2.imp {R:α->β->Prop} (h:All2 R xs ys) (hi:∀x y,R x y->S x y):All2 S xs ys:=by
 induction h with
 | nil=>exact .nil
 | cons h _ ih=>exact .cons (hi _ _ h) ih
theorem All2.app {R:α->β->Prop} {xs':List α} {ys':List β} (h:All2 R xs ys) (h':All2 R xs' ys'):All2 R (xs++xs') (ys++ys'):=by
 induction h with
 | nil=>exact h'
 | cons h _ ih=>exact .cons h ih
theorem All2.take {R:α->β->Prop} (h:All2 R xs ys):∀k,All2 R (xs.take k) (ys.take k):=by
 induction h with
 | nil=>intro k;simp;exact .nil
 | cons h _ ih=>intro k;cases k with
  | zero=>exact .nil
  | succ k=>exact .cons h (ih k)
theorem All2.drop {R:α->β->Prop} (h:All2 R xs ys):∀k,All2 R (xs.drop k) (ys.drop k):=by
 induction h with
 | nil=>intro k;simp;exact .nil
 | cons h b ih=>intro k;cases k with
  | zero=>exact .cons h b
  | succ k=>exact ih k
theorem All2.mono (c:R.Mono) (b:μ.le ν) (h:All2 (R μ) css l):All2 (R ν) css l:=h.imp λ_ _=>c _ _ _ _ b
theorem ArrQ.mono (h:ArrQ μ sz R ad cap css l) (c:R.Mono) (b:μ.le ν):ArrQ ν sz R ad cap css l:=⟨h.1.mono b,h.2.mono c b⟩
theorem ArrQ.at (h:ArrQ μ sz R ad cap css l) (b:FrzAt μ w):Arr w sz (fN sz) ad l.length cap css:=by
 have:=h.1 w b
 rwa [h.2.len] at this
theorem ArrQ.nil:ArrQ μ sz R none 0 [] ([]:List α):=⟨ArrM.nil,.nil⟩
theorem PtM.mono {T:TypeId} {pa:Option Addr} {x:Option α} (h:PtM μ T R pa x) (e:R.Mono) (c:μ.le ν):PtM ν T R pa x:=by
 rcases h with h|⟨b,cs,d,h1,f,g,i⟩
 ·exact .inl h
 ·exact .inr ⟨b,cs,d,h1,f,g.mono c,e _ _ _ _ c i⟩
theorem PtM.some {T:TypeId} {pa:Option Addr} {x:Option α} {d:α} (h:PtM μ T R pa x) (c:x=.some d):∃b cs,pa=Option.some ⟨b,0,none⟩/\BlkM μ b T cs.toArray/\R μ cs d:=by
 rcases h with ⟨_,rfl⟩|⟨b,cs,d',h1,e,f,g⟩
 ·cases c
 ·rw [c] at e;cases e;exact ⟨b,cs,h1,f,g⟩
theorem Blk.toM {t:TypeId} (h:Blk w b t cs):BlkM (Cv w) b t cs:=λ_w' c=>c b _ h
theorem BlkM.blk {t:TypeId} (h:BlkM μ b t cs) (c:FrzAt μ w):Blk w b t cs:=h w c
theorem ArrQ.of_own (h:Arr w sz (fN sz) ad l.length cap css) (c:All2 (R μ) css l) (d:R.Mono) (b:μ.le (Cv w)):ArrQ (Cv w) sz R ad cap css l:=by
 refine ⟨Arr.toM ?_,c.mono d b⟩;rw [c.len];exact h
theorem ArrQ.of_arr {e:Nat} (h:∀w,FrzAt ν w->(arr e sz (fN sz) ad l.length cap css).holds w) (c:All2 (R μ) css l) (d:R.Mono) (b:μ.le ν):ArrQ ν sz R ad cap css l:=by
 refine ⟨?_,c.mono d b⟩;have f:=c.len;intro w g;have:=h w g;rw [←f] at this;exact ⟨rfl,Sl.of_own this.2⟩
theorem ArrQ.one (h:All2 (R μ) css l) (c:R.One sz):∀x∈css,(fN sz x).all Value.oneCell'=true:=by
 induction h with
 | nil=>intro x b;simp at b
 | cons h _ ih =>
   intro x b;rcases List.mem_cons.1 b with rfl|b
   ·exact c _ _ _ h
   ·exact ih x b
end
section
variable {cs:List Cd} {t:Nat}
theorem Na {i:Int} (h:Arr w sz f ad n cap l) (b:L5 P t sz=true) (c:Bc cs=true->Cj l i=some u) :
  Ob.ok P T D (.run cs (Instr.indexAt t (.slice ad n cap) (.int .i64 i)) (.pointer (some (Bb ad i sz)))) :=
 B5x h b λd=>by have:=Pn (c d);have:=h.len;exact ⟨by omega,by omega⟩
theorem M8 {i:Int} (j:Nat) (c:∀x,(f x).length=sz) (h:∀w',D w'->Arr w' sz f ad n cap l) (d:S4 P t=true) (g:Bc cs=true->Cj l i=some u) (hj:(f u)[j]? = some v) :
  Ob.ok P T D (.run cs (Instr.loadAt t (.pointer (some ((Bb ad i sz).add j)))) v):=by
 intro k w' e;obtain ⟨m,hi,o⟩:=Pn (g k);have p:=(h w' e).len;obtain ⟨_,_,b⟩:=(h w' e).cells c m (by omega) u;rw [A5j o] at b;exact Wm d (b j _ hj)
theorem A1e {i:Int} {us:List Value} (j:Nat) (k:∀x,(f x).length=sz) (h:∀w',D w'->Arr w' sz f ad n cap l) (o:Qf P t=some m) (p:Bc cs=true->Cj l i=some u) (d:us.length=m/\((f u).drop j).take m=us) :
  Ob.ok P T D (.run cs (Instr.loadAt t (.pointer (some ((Bb ad i sz).add j)))) (.agg us.toArray)):=by
 intro r w' e;obtain ⟨s,hi,c⟩:=Pn (p r);have v:=(h w' e).len;obtain ⟨_,_,g⟩:=(h w' e).cells k s (by omega) u;rw [A5j c] at g;refine Wn (by rw [d.1];exact o) (λq u' b=>?_);rw [Sr];refine g (j+q) u' ?_;rw [←d.2,List.getElem?_take] at b
 split at b
 ·rwa [List.getElem?_drop] at b
 ·cases b
end
section
variable {e:Nat} {c c':List α} {l l' l3:List β}
theorem Y0 (M':Option Addr->Nat->List (Nat×Value)) (i:Nat) {t:Nat} (z:Fr N ds M a) (y:St w0 H w) (hi:H[i]? = some (arr e sz f ad l.length cap c)) (n:As ops N=true)
  (hs:EffAt ops k M (Builtin.append_ #[t,t] ty #[.slice ad l.length cap,.slice sad l'.length scap])) (s:Jl P t e sz bytes=true) (b:Arr w sz f sad l'.length scap c') (h1:∀x∈c',(f x).all Value.oneCell'=true) (u:apd bytes l l'=some l3)
  (hM:∀ad2 cap2,NextM ops k M (.slice ad2 l3.length cap2) (M' ad2 cap2))
  (next:∀ad2 cap2 w' a',Fr N ds (M' ad2 cap2) a'->St w0 (H.set i (arr e sz f ad2 l3.length cap2 (c++c'))) w'->K a' w'):SK P r ops k K a w:=by
 obtain ⟨rfl,hb,m⟩:=Lh u;have o:=y.holds _ (List.mem_of_getElem? hi);have p:c.length=l.length:=o.1;have g:c'.length=l'.length:=b.len;have j:(l++l').length=l.length+l'.length:=List.length_append;have d:(c++c').length=l.length+l'.length:=by rw [List.length_append,p,g]
 rw [←p] at hi hs hb m;rw [←g] at b hs hb m;refine B51 (l:=c) (l':=c') (l3:=c++c') M' i z y hi n hs s b h1 ?_ ?_ ?_
 ·unfold apd;rw [if_pos ⟨hb,m⟩]
 ·intro ad2 cap2;have:=hM ad2 cap2;rwa [j,←d] at this
 ·intro ad2 cap2 w' a' v q;rw [d,←j] at q;exact next ad2 cap2 w' a' v q
theorem Ua (M':Nat->List (Nat×Value)) {t len:Nat} (parts:Array (Nat×Value)) (cs:Array Value) (c:List α) (l:List β) (m:Fr N ds M a) (n:St w0 H w) (d:As ops N=true) (hs:EffAt ops k M (Instr.buildSlice t len parts))
  (hb:N0 P t len parts=some (e,cs)) (o:∀x,(f x).length=sz) (i:c.length=len) (g:l.length=len) (p:c.flatMap f=cs.toList) (q:Nat.ble len 16777216=true) (s:∀b,NextM ops k M (.slice (some ⟨b,0,none⟩) len len) (M' b))
  (next:∀b w' a',Fr N ds (M' b) a'->St w0 (arr e sz f (some ⟨b,0,none⟩) l.length len c::H) w'->K a' w'):SK P r ops k K a w:=by
 refine B12 M' parts cs c m n d hs hb o i p q s ?_;intro b w' a' h1 j;rw [i] at j;exact next b w' a' h1 (by rw [g];exact j)
end
def Xc (ops:Array Oper) (e i:Nat):Bool:=((Yr ops.toList []).getD i 0).testBit e
def Ch (ops:Array Oper) (m:Nat) (eff done:List Nat):List Nat :=
 (List.range m).filter λi=>!eff.contains i&&(eff.all λe=>!Xc ops e i||done.contains e)&&(match done.getLast? with|some e=>Xc ops e i|none=>true)
def Vq (ops:Array Oper) (eff done:List Nat):List Nat:=eff.filter λe=>!done.contains e&&eff.all λd=>!Xc ops d e||done.contains d
def WT (P:Program) (r:Option Nat) (ops:Array Oper) (D:World->Prop) (m:Nat) (eff:List Nat) (K:Act->World->Prop):Nat->List Nat->Act->World->Prop
 | 0,done,a,w=>WRun P r ops D [] K (Ch ops m eff done) a w
 | n+1,done,a,w=>WRun P r ops D [] (λa w=>∀e∈Vq ops eff done,SK P r ops e (λa' w'=>D w'/\WT P r ops D m eff K n (done++[e]) a' w') a w) (Ch ops m eff done) a w
def SKB (P:Program) (r:Option Nat) (ops:Array Oper) (k:Nat) (B:List PanicEntry->World->Prop) (K:Act->World->Prop) (a:Act) (w:World):Prop :=
 ∃o,ops[k]? = some o/\OpGB P r ops o a w (λv w'=>K (a.put o.dst v) w') B
def WTB (P:Program) (r:Option Nat) (ops:Array Oper) (D:World->Prop) (m:Nat) (eff:List Nat) (B:List PanicEntry->World->Prop) (K:Act->World->Prop):Nat->List Nat->Act->World->Prop
 | 0,done,a,w=>WRun P r ops D [] K (Ch ops m eff done) a w
 | n+1,done,a,w=>WRun P r ops D [] (λa w=>∀e∈Vq ops eff done,SKB P r ops e B (λa' w'=>D w'/\WTB P r ops D m eff B K n (done++[e]) a' w') a w) (Ch ops m eff done) a w
def Ry (ops:Array Oper) (pre:List Nat) (i:Nat):Bool:=match ops[i]? with|some o=>(o.looksAt ops).all λt=>lastW ops pre t==Kn ops i t|none=>false
def Sd (ops:Array Oper) (m:Nat) (eff:List Nat):Nat->List Nat->List Nat->Bool
 | 0,done,pre=>V1 ops pre (Ch ops m eff done)&&S3 (pre++Ch ops m eff done)&&(List.range m).all (λi=>(pre++Ch ops m eff done).contains i) &&
   ((List.range m).all λj=>match dstAt ops j with|some t=>lastW ops (pre++Ch ops m eff done) t==Kn ops m t|none=>true)
 | n+1,done,pre=>V1 ops pre (Ch ops m eff done)&&S3 (pre++Ch ops m eff done) &&
   (Vq ops eff done).all λe=>Ry ops (pre++Ch ops m eff done) e&&!(pre++Ch ops m eff done).contains e&&Sd ops m eff n (done++[e]) (pre++Ch ops m eff done++[e])
section
variable {B:List PanicEntry->World->Prop}
theorem SK.toB (h:SK P r ops k K a w):SKB P r ops k B K a w:=by
 obtain ⟨o,ho,h⟩:=h;exact ⟨o,ho,.inl h⟩
theorem A3m {a':Act} {R:Value->World->Prop} (c:plainOp o.op=true) (hs:a'.tmps.size=a.tmps.size) (h:∀t∈o.looksAt ops,a'.tmps.getD t undef=a.tmps.getD t undef) (b:OpGB P r ops o a w R B):OpGB P r ops o a' w R B:=by
 rcases b with b|⟨d,f,args,w',h1,e⟩
 ·exact .inl (A63 c hs h b)
 ·refine .inr ⟨?_,f,args,w',?_,e⟩
  ·rw [←d];exact Wb hs h
  ·rw [←h1,X9 c h]
theorem A02:∀(l k:List Nat),l.Nodup->(∀x∈l,x∈k)->l.length<=k.length:=by
 intro l
 induction l with
 | nil=>intro k _ _;simp
 | cons x l ih =>
  intro k i hs;have d:=hs x (List.mem_cons_self ..);have b:=List.nodup_cons.1 i;have:=ih (k.erase x) b.2 (λy f=>by
   have c:y≠x:=λe=>b.1 (e▸f);exact (List.mem_erase_of_ne c).2 (hs y (List.mem_cons_of_mem _ f)))
  rw [List.length_erase_of_mem d] at this;have g:0<k.length:=List.length_pos_of_mem d;simp;omega
theorem A6u {l k:List Nat} (c:l.Nodup) (hs:∀x∈l,x∈k) (e:k.length<=l.length):∀x∈k,x∈l:=by
 intro x d
 by_cases h:x∈l
 ·exact h
 ·have:=A02 (x::l) k (List.nodup_cons.2 ⟨h,c⟩) (λy b=>by
   rcases List.mem_cons.1 b with rfl|b
   ·exact d
   ·exact hs y b)
  simp at this;omega
theorem Zk {e i:Nat} (h:Xc ops e i=true):Anc ops e i:=Tb h
theorem A3h {pre:List Nat} {i:Nat} {l:List Nat} (h:V1 ops pre (i::l)=true):Ry ops pre i=true/\V1 ops (pre++[i]) l=true:=by
 rw [V1,Bool.and_eq_true] at h;exact h
theorem Rz {pre:List Nat} {i:Nat} (h:Ry ops pre i=true) (ho:ops[i]? = some o):∀t∈o.looksAt ops,lastW ops pre t=Kn ops i t:=by
 unfold Ry at h;rw [ho] at h;intro t b
 simpa using List.all_eq_true.1 h t b
theorem Uv {l:List Nat} {i:Nat} {k:List Nat} (h:(l++i::k).Nodup):i∉l:=by
 intro hi;have:=(List.nodup_append.1 h).2.2 i hi i (List.mem_cons_self ..);exact this rfl
def Zi (P:Program) (r:Option Nat) (ops:Array Oper) (D:World->Prop) (a:Act) (vals:Nat->Value) (i:Nat):Prop :=
 ∃o,ops[i]? = some o/\∀a' w',(∀t∈o.looksAt ops,a'.tmps.getD t undef=Nd ops a vals i t)->D w'->OpG P r ops o a' w' (λv' w''=>v'=vals i/\w''=w')
def Told (ops:Array Oper) (l:List Nat):Prop:=∀pre i post,l=pre++i::post->Ry ops pre i=true
theorem Told.snoc {l:List Nat} {i:Nat} (h:Told ops l) (hi:Ry ops l i=true):Told ops (l++[i]):=by
 intro pre j post e;rcases List.eq_nil_or_concat post with rfl|⟨q,x,rfl⟩
 ·have:=List.append_inj' e (by simp);obtain ⟨e1,e2⟩:=this
  cases e2
  rw [←e1];exact hi
 ·rw [List.concat_eq_append,←List.cons_append,←List.append_assoc] at e;obtain ⟨e1,_⟩:=List.append_inj' e (by simp);exact h pre j q e1
theorem Z1 {l:List Nat} (f:Told ops l) {vals vals':Nat->Value} (c:∀i∈l,vals' i=vals i) {i:Nat} (hi:i∈l) (h:Zi P r ops D a vals i):Zi P r ops D a vals' i:=by
 obtain ⟨o,ho,h⟩:=h;obtain ⟨pre,post,e⟩:=List.append_of_mem hi;refine ⟨o,ho,λa' w' hs g=>?_⟩;rw [c i hi];refine h a' w' (λt b=>?_) g;rw [hs t b];unfold Nd;have d:=Rz (f pre i post e) ho t b
 cases hs:Kn ops i t with
 | none=>rfl
 | some j =>
  rw [hs] at d;exact c j (by rw [e];exact List.mem_append_left _ (Tr d).1)
theorem A52 {l0:List Nat} (f:As ops N=true) (p:∀i∈l0,i<ops.size):∀(rs:List Nat) (pre:List Nat) (vals:Nat->Value) (b:Act),(∀i∈rs,i∈l0)->V1 ops pre rs=true->(pre++rs).Nodup->Told ops pre ->
  FIs ops N a vals pre b->(∀i∈pre,i∉eff->Zi P r ops D a vals i)->(∀i∈rs,i∉eff)->WRun P r ops D [] K rs b w ->
  ∃vals' b',(∀i∈pre,vals' i=vals i)/\FIs ops N a vals' (pre++rs) b'/\(∀i∈pre++rs,i∉eff->Zi P r ops D a vals' i)/\Told ops (pre++rs)/\K b' w:=by
 intro rs
 induction rs with
 | nil=>intro pre vals b _ _ _ n hb s _ c;exact ⟨vals,b,λ_ _=>rfl,by simpa using hb,by simpa using s,by simpa using n,c⟩
 | cons i rs ih =>
  intro pre vals b g hs k n hb s u c;obtain ⟨h1,h2⟩:=A3h hs;rw [WRun] at c;simp only [List.contains_nil,cond_false] at c;obtain ⟨v,x,c⟩:=c;have l:=Uv k;have d:∀j∈pre,Rh vals i v j=vals j:=λj hj=>by
   have:j≠i:=λe=>l (e▸hj);simp [Rh,this]
  have y:=hb.put (v:=v) f (p i (g i (List.mem_cons_self ..))) l;have z:=n.snoc h1;obtain ⟨vals',b',k1,k2,k3,k4,k5⟩:=ih (pre++[i]) (Rh vals i v) _ (λj hj=>g j (List.mem_cons_of_mem _ hj)) h2 (by simpa using k) z y (λj hj b0=>by
   rcases List.mem_append.1 hj with hj|hj
   ·exact Z1 n d hj (s j hj b0)
   ·simp at hj;subst hj;obtain ⟨o,ho,b1⟩:=x;refine ⟨o,ho,λa' w' hs b2=>?_⟩;have:Rh vals j v j=v:=by simp [Rh]
    rw [this];refine b1 a' w' (λt m=>?_) b2;rw [hs t m,hb.slot t];unfold Nd;have hl:=Rz h1 ho t m;rw [hl]
    cases hs:Kn ops j t with
    | none=>rfl
    | some q =>
     rw [hs] at hl;exact d q (Tr hl).1) (λj hj=>u j (List.mem_cons_of_mem _ hj)) c
  refine ⟨vals',b',λj hj=>?_,by simpa using k2,by simpa using k3,by simpa using k4,k5⟩;rw [k1 j (List.mem_append_left _ hj),d j hj]
theorem A1i (m:Nat) (eff:List Nat) (e6:P.follows .mixedOrders=true) (c8:(As ops N&&P9 ops m&&K9 ops m&&Fy ops&&Nat.ble m ops.size&&Sd ops m eff eff.length [] []&&eff.all (λe=>Nat.blt e m&&(match ops[e]? with|some o=>plainOp o.op|none=>false))&&S3 eff)=true) (hN:a.tmps.size=N)
  (hB:∀ch a' w,a'.defers=a.defers->B ch w->Q (.panic ch) a' w) (hD:D { w with drawn:=w.drawn+1 }) (h:WTB P r ops D m eff B (λa w=>WI P r ops Q m a w) eff.length [] a { w with drawn:=w.drawn+1 }):WP P r (.region id ops true) Q a w:=by
 simp only [Bool.and_eq_true] at c8;obtain ⟨⟨⟨⟨⟨⟨⟨h1,h2⟩,h3⟩,h4⟩,h5⟩,h6⟩,h7⟩,h8⟩:=c8;have e7:=Nat.le_of_ble_eq_true h5;have b7:∀e∈eff,e<m/\∀o,ops[e]? = some o->plainOp o.op=true:=λe he=>by
  have:=List.all_eq_true.1 h7 e he;rw [Bool.and_eq_true] at this;exact ⟨Nat.blt_eq.mp this.1,λo ho=>by have:=this.2;rw [ho] at this;exact this⟩
 have c9:=T3 h8;have newR:∀done i,i∈Ch ops m eff done->i<m/\i∉eff:=by
  intro done i hi;unfold Ch at hi;have:=List.mem_filter.1 hi;simp only [Bool.and_eq_true] at this;exact ⟨List.mem_range.1 this.1,by simpa using this.2.1.1⟩
 let St:Nat->List Nat->List Nat->(Nat->Value)->Act->World->Prop:=λn done pre vals b w =>
  FIs ops N a vals pre b/\(∀i∈pre,i∉eff->Zi P r ops D a vals i)/\Told ops pre/\pre.Nodup/\(∀i∈pre,i<m)/\(∀e∈eff,e∈pre↔e∈done)/\(∀e∈done,e∈eff)/\done.Nodup/\done.length+n=eff.length /\
  (∀i,i<m->i∉eff->(∀e∈eff,Xc ops e i=true->e∈done)->i∈pre) /\
  (match n with
   | 0=>WI P r ops Q m b w/\∀t,lastW ops pre t=Kn ops m t
   | n+1=>(∀e∈Vq ops eff done,SKB P r ops e B (λa' w'=>D w'/\WTB P r ops D m eff B (λa w=>WI P r ops Q m a w) n (done++[e]) a' w') b w)/\∀e∈Vq ops eff done,Ry ops pre e=true/\e∉pre/\Sd ops m eff n (done++[e]) (pre++[e])=true)
 have enter:∀n done pre vals b w,FIs ops N a vals pre b->(∀i∈pre,i∉eff->Zi P r ops D a vals i)->Told ops pre->(∀i∈pre,i<m)->(∀e∈eff,e∈pre↔e∈done)->(∀e∈done,e∈eff)->done.Nodup->done.length+n=eff.length ->
   (∀i,i<m->i∉eff->(∀e∈eff,Xc ops e i=true->e∈done)->i∈pre++Ch ops m eff done)->Sd ops m eff n done pre=true->WTB P r ops D m eff B (λa w=>WI P r ops Q m a w) n done b w ->
   ∃vals' b',(∀i∈pre,vals' i=vals i)/\St n done (pre++Ch ops m eff done) vals' b' w:=by
  intro n done pre vals b w hb hr f e8 c0 d0 d1 d2 b8 b4 hw;have c2:∀i∈Ch ops m eff done,i∉eff:=λi hi=>(newR done i hi).2;have d3:∀i∈Ch ops m eff done,i<ops.size:=λi hi=>by have:=(newR done i hi).1;omega
  have l:∀i∈pre++Ch ops m eff done,i<m:=λi hi=>by
   rcases List.mem_append.1 hi with hi|hi
   ·exact e8 i hi
   ·exact (newR done i hi).1
  have b9:∀e∈eff,e∈pre++Ch ops m eff done↔e∈done:=λe he=>by
   rw [List.mem_append,c0 e he];exact ⟨λh=>h.elim (λh=>h) (λh=>absurd he (c2 e h)),.inl⟩
  cases n with
  | zero =>
   simp only [Sd,Bool.and_eq_true] at b4;obtain ⟨⟨⟨o1,o2⟩,o3⟩,o4⟩:=b4;have p:=T3 o2;rw [WTB] at hw;obtain ⟨vals',b',k1,k2,k3,k4,k5⟩:=A52 (l0:=Ch ops m eff done) (eff:=eff) h1 d3 _ pre vals b (λ_ h=>h) o1 p f hb hr c2 hw;refine ⟨vals',b',k1,k2,k3,k4,p,l,b9,d0,d1,d2,b8,k5,λt=>?_⟩
   cases hs:Kn ops m t with
   | some j =>
    obtain ⟨e9,q,_⟩:=Q5 hs;have:=List.all_eq_true.1 o4 j (List.mem_range.2 e9);rw [q] at this;rw [←hs]
    simpa using this
   | none =>
    cases hl:lastW ops (pre++Ch ops m eff done) t with
    | none=>rfl
    | some j =>
     obtain ⟨s,q⟩:=Tr hl;exact absurd q (V0 hs j (l j s))
  | succ n =>
   simp only [Sd,Bool.and_eq_true] at b4;obtain ⟨⟨o1,o2⟩,o3⟩:=b4;have p:=T3 o2;rw [WTB] at hw;obtain ⟨vals',b',k1,k2,k3,k4,k5⟩:=A52 (l0:=Ch ops m eff done) (eff:=eff) h1 d3 _ pre vals b (λ_ h=>h) o1 p f hb hr c2 hw;refine ⟨vals',b',k1,k2,k3,k4,p,l,b9,d0,d1,d2,b8,k5,λe he=>?_⟩;have:=List.all_eq_true.1 o3 e he;simp only [Bool.and_eq_true] at this;exact ⟨this.1.1,by simpa using this.1.2,this.2⟩
 let G:(Nat->Bool)->(Nat->Value)->World->Prop:=λS σ w=>∃n done pre vals b,St n done pre vals b w/\D w/\(∀i,S i=true->i∈pre)/\(∀e∈done,S e=true)/\(∀i,S i=true->σ i=vals i)
 refine A1h (B:=B) (N:=N) (m:=m) (G:=G) e6 h1 h2 h3 h4 e7 hB ?_ hN ?_ (λ_=>undef) ?_ ?_
 ·intro S σ a1 w1 i o c3 ho f1 u j5 i5 f2 d4 hG c4;obtain ⟨n,done,pre,vals,b,⟨s1,s2,s3,s4,s5,s6,s7,s8,s9,s10,s11⟩,g1,g2,g3,g4⟩:=hG;have d6:∀t∈o.looksAt ops,∀j,Kn ops i t=some j->S j=true:=by
   intro t f j hj;obtain ⟨g,q,_⟩:=Q5 hj;obtain ⟨xo,f3,f4⟩:=Rw q;rcases Uw h2 g c3 f3 ho with f5|hA
   ·exact absurd f ((Oper.apart_spec f5).1 t f4)
   ·exact u j hA
  have z:∀t∈o.looksAt ops,a1.tmps.getD t undef=Nd ops a vals i t:=by
   intro t f;rw [c4 t f];unfold Nd
   cases hl:Kn ops i t with
   | none=>rfl
   | some j=>exact g4 j (d6 t f j hl)
  by_cases c:i∈eff
  ·
   have c5:∀e∈eff,Xc ops e i=true->e∈done:=λe he hA=>(s6 e he).1 (g2 e (u e (Zk hA)));have c6:i∉done:=λhd=>by have:=g3 i hd;rw [f1] at this;cases this
   have d7:i∈Vq ops eff done:=by
    unfold Vq;refine List.mem_filter.2 ⟨c,?_⟩;rw [Bool.and_eq_true];refine ⟨by simpa using c6,List.all_eq_true.2 λd hd=>?_⟩
    cases hA:Xc ops d i with
    | false=>simp
    | true=>simpa using c5 d hd hA
   cases n with
   | zero =>
    exfalso;have hp:done.length=eff.length:=by omega
    have b0:∀x∈done,x∈eff:=s7;have:i∈done:=by
     exact A6u s8 b0 (by omega) i c
    exact c6 this
   | succ n =>
    obtain ⟨c7,f6⟩:=s11;obtain ⟨l1,l2,l3⟩:=f6 i d7;obtain ⟨o',b1,f7⟩:=c7 i d7;rw [ho] at b1
    cases b1
    have d8:=A3m (a':=a1) ((b7 i c).2 o ho) (by rw [f2,s1.size]) (λt f=>by
     rw [z t f,s1.slot t,Rz l1 ho t f];rfl) f7
    refine d8.mono ?_;rintro v w' ⟨f8,hw⟩;have d9:∀j∈pre,Rh vals i v j=vals j:=λj hj=>by
     have:j≠i:=λe=>l2 (e▸hj);simp [Rh,this]
    have f9:=s1.put (v:=v) h1 (by omega) l2;have g0:o.dst=dstAt ops i:=by simp [dstAt,ho]
    rw [g0] at hw;obtain ⟨vals',b',k1,k2⟩:=enter n (done++[i]) (pre++[i]) (Rh vals i v) _ w' f9 (λj hj b2=>by
      rcases List.mem_append.1 hj with hj|hj
      ·exact Z1 s3 d9 hj (s2 j hj b2)
      ·simp at hj;subst hj;exact absurd c b2) (s3.snoc l1) (λj hj=>by
      rcases List.mem_append.1 hj with hj|hj
      ·exact s5 j hj
      ·simp at hj;subst hj;exact c3) (λe he=>by rw [List.mem_append,List.mem_append,s6 e he]) (λe he=>by
      rcases List.mem_append.1 he with he|he
      ·exact s7 e he
      ·simp at he;subst he;exact c) (List.nodup_append.2 ⟨s8,by simp,λx hx y hy=>by simp at hy;subst hy;exact λe=>c6 (e▸hx)⟩) (by simp;omega) (λj hj b2 e0=>by
      by_cases b3:∀e∈eff,Xc ops e j=true->e∈done
      ·exact List.mem_append_left _ (List.mem_append_left _ (s10 j hj b2 b3))
      ·refine List.mem_append_right _ ?_;unfold Ch;refine List.mem_filter.2 ⟨List.mem_range.2 hj,?_⟩;have g5:Xc ops i j=true:=by
        simp only [Classical.not_forall] at b3;obtain ⟨e,he,k,c0⟩:=b3;rcases List.mem_append.1 (e0 e he k) with h'|h'
        ·exact absurd h' c0
        ·simp at h';subst h';exact k
       simp only [Bool.and_eq_true];refine ⟨⟨by simpa using b2,List.all_eq_true.2 λe he=>?_⟩,by simpa using g5⟩
       cases k:Xc ops e j with
       | false=>simp
       | true=>simpa using e0 e he k) l3 hw
    refine ⟨n,done++[i],_,vals',b',k2,f8,λj hj=>?_,λe he=>?_,λj hj=>?_⟩
    ·rcases Bool.or_eq_true _ _▸hj with hj|hj
     ·exact List.mem_append_left _ (List.mem_append_left _ (g2 j hj))
     ·rw [Nat.beq_eq] at hj;subst hj;exact List.mem_append_left _ (by simp)
    ·rcases List.mem_append.1 he with he|he
     ·simp [g3 e he]
     ·simp at he;subst he;simp
    ·rcases Bool.or_eq_true _ _▸hj with hj|hj
     ·have s:=g2 j hj;have g:j≠i:=λe=>l2 (e▸s);rw [k1 j (List.mem_append_left _ s),d9 j s];simp [Rh,g,g4 j hj]
     ·rw [Nat.beq_eq] at hj;subst hj;rw [k1 j (by simp)];simp [Rh]
  ·have e3:i∈pre:=s10 i c3 c (λe he hA=>(s6 e he).1 (g2 e (u e (Zk hA))));obtain ⟨o',b1,hr⟩:=s2 i e3 c;rw [ho] at b1
   cases b1
   refine .inl ((hr a1 w1 z g1).mono ?_);rintro v w' ⟨rfl,rfl⟩;refine ⟨n,done,pre,vals,b,⟨s1,s2,s3,s4,s5,s6,s7,s8,s9,s10,s11⟩,g1,λj hj=>?_,λe he=>by simp [g3 e he],λj hj=>?_⟩
   ·rcases Bool.or_eq_true _ _▸hj with hj|hj
    ·exact g2 j hj
    ·rw [Nat.beq_eq] at hj;subst hj;exact e3
   ·rcases Bool.or_eq_true _ _▸hj with hj|hj
    ·by_cases g:j=i
     ·subst g;simp [Rh]
     ·simp [Rh,g,g4 j hj]
    ·rw [Nat.beq_eq] at hj;subst hj;simp [Rh]
 ·intro S S' σ w1 g6 hG;have:S=S':=funext g6;rw [←this];exact hG
 ·obtain ⟨vals',b',k1,k2⟩:=enter eff.length [] [] (λ_=>undef) a _ ⟨hN,rfl,λt=>by simp [lastW]⟩ (λi hi=>by simp at hi) (λpre i post e=>by simp at e) (λi hi=>by simp at hi) (λe he=>by simp) (λe he=>by simp at he) List.nodup_nil (by simp) (λi hi c hA=>by
    refine List.mem_append_right _ (List.mem_filter.2 ⟨List.mem_range.2 hi,?_⟩);simp only [Bool.and_eq_true];refine ⟨⟨by simpa using c,List.all_eq_true.2 λe he=>?_⟩,rfl⟩
    cases k:Xc ops e i with
    | false=>simp
    | true=>exact absurd (hA e he k) (by simp)) h6 h
  exact ⟨_,_,_,vals',b',k2,hD,λi hi=>by simp at hi,λe he=>by simp at he,λi hi=>by simp at hi⟩
 ·intro a' w' σ g7 d4 hG b6;obtain ⟨n,done,pre,vals,b,⟨s1,s2,s3,s4,s5,s6,s7,s8,s9,s10,s11⟩,g1,g2,g3,g4⟩:=hG;have hn:n=0:=by
   have b0:∀e∈eff,e∈done:=λe he=>(s6 e he).1 (g2 e (Nat.blt_eq.mpr (b7 e he).1));have:=A02 eff done c9 b0;omega
  subst hn;obtain ⟨g8,e4⟩:=s11;have g9:a'=b:=by
   have f:a'.tmps=b.tmps:=by
    refine Array.ext (by rw [g7,s1.size]) (λt i0 i1=>?_);have e1:=b6 t;have e2:=s1.slot t;have i2:Nd ops a σ m t=(match lastW ops pre t with|some j=>vals j|none=>a.tmps.getD t undef):=by
     rw [e4 t];unfold Nd
     cases hs:Kn ops m t with
     | none=>rfl
     | some j=>exact g4 j (Nat.blt_eq.mpr (Q5 hs).1)
    replace e1:a'.tmps.getD t undef=b.tmps.getD t undef:=e1.trans (i2.trans e2.symm);rw [Array.getD_eq_getD_getElem?,Array.getD_eq_getD_getElem?,Array.getElem?_eq_getElem i0,Array.getElem?_eq_getElem i1] at e1
    simpa using e1
   cases a';cases b
   simp only at f;subst f;have:=d4.trans s1.dfs.symm;simp only at this;rw [this]
  rw [g9];exact g8
theorem WRun.mono0 (b:∀a w,K a w->K' a w):∀{l:List Nat} {a:Act} {w:World},WRun P r ops D [] K l a w->WRun P r ops D [] K' l a w:=by
 intro l
 induction l with
 | nil=>intro a w h;exact b a w h
 | cons i l ih =>
  intro a w h;rw [WRun] at h ⊢;simp only [List.contains_nil,cond_false] at h ⊢;obtain ⟨v,h1,c⟩:=h;exact ⟨v,h1,ih c⟩
theorem WT.toB:∀{n:Nat} {done:List Nat} {a:Act} {w:World},WT P r ops D m eff K n done a w->WTB P r ops D m eff B K n done a w:=by
 intro n
 induction n with
 | zero=>intro done a w h;rw [WT] at h;rw [WTB];exact h
 | succ n ih =>
  intro done a w h;rw [WT] at h;rw [WTB];refine WRun.mono0 (λa w h e he=>SK.toB ?_) h;obtain ⟨o,ho,h⟩:=h e he;exact ⟨o,ho,h.mono λ_ _ h=>⟨h.1,ih h.2⟩⟩
theorem A36 (m:Nat) (eff:List Nat) (b:P.follows .mixedOrders=true) (c:(As ops N&&P9 ops m&&K9 ops m&&Fy ops&&Nat.ble m ops.size&&Sd ops m eff eff.length [] []&&eff.all (λe=>Nat.blt e m&&(match ops[e]? with|some o=>plainOp o.op|none=>false))&&S3 eff)=true) (d:a.tmps.size=N)
  (f:D { w with drawn:=w.drawn+1 }) (h:WT P r ops D m eff (λa w=>WI P r ops Q m a w) eff.length [] a { w with drawn:=w.drawn+1 }):WP P r (.region id ops true) Q a w:=by
 refine A1i (B:=λ_ _=>False) m eff b c d (λ_ _ _ _ h=>h.elim) f (WT.toB h)
theorem WRun.mono (b:∀a w,K a w->K' a w) {l:List Nat} (h:WRun P r ops D [] K l a w):WRun P r ops D [] K' l a w:=WRun.mono0 b h
theorem SK.mono (b:∀a w,K a w->K' a w) (h:SK P r ops k K a w):SK P r ops k K' a w:=by
 obtain ⟨o,ho,h⟩:=h;exact ⟨o,ho,h.mono λ_ _=>b _ _⟩
theorem WT.mono (b:∀a w,K a w->K' a w):∀{n:Nat} {done:List Nat} {a:Act} {w:World},WT P r ops D m eff K n done a w->WT P r ops D m eff K' n done a w:=by
 intro n
 induction n with
 | zero=>intro done a w h;rw [WT] at h ⊢;exact WRun.mono b h
 | succ n ih =>
  intro done a w h;rw [WT] at h ⊢;exact WRun.mono (λa w h e he=>(h e he).mono λa w h=>⟨h.1,ih h.2⟩) h
theorem A1j (m:Nat) (eff:List Nat) (J:Act->World->Prop) (b:P.follows .mixedOrders=true) (c:(As ops N&&P9 ops m&&K9 ops m&&Fy ops&&Nat.ble m ops.size&&Sd ops m eff eff.length [] []&&eff.all (λe=>Nat.blt e m&&(match ops[e]? with|some o=>plainOp o.op|none=>false))&&S3 eff)=true) (d:a.tmps.size=N)
  (f:D { w with drawn:=w.drawn+1 }) (h:WT P r ops D m eff J eff.length [] a { w with drawn:=w.drawn+1 }) (g:∀a w,J a w->WI P r ops Q m a w):WP P r (.region id ops true) Q a w :=
 A36 m eff b c d f (WT.mono g h)
theorem WT.z (rs:List Nat) (b:Ch ops m eff done=rs) (h:WRun P r ops D [] K rs a w):WT P r ops D m eff K 0 done a w:=by rw [WT,b];exact h
theorem WT.s (rs es:List Nat) (b:Ch ops m eff done=rs) (c:Vq ops eff done=es)
  (h:WRun P r ops D [] (λa w=>∀e∈es,SK P r ops e (λa' w'=>D w'/\WT P r ops D m eff K n (done++[e]) a' w') a w) rs a w):WT P r ops D m eff K (n+1) done a w:=by rw [WT,b,c];exact h
theorem Av {p:Nat->Prop}:∀e∈([]:List Nat),p e:=λe h=>by simp at h
theorem all_cons {p:Nat->Prop} {x:Nat} {l:List Nat} (h:p x) (t:∀e∈l,p e):∀e∈x::l,p e:=λe he=>by
 rcases List.mem_cons.1 he with rfl|he
 ·exact h
 ·exact t e he
theorem An (m:Nat) (eff:List Nat) (J:Act->World->Prop) (b:P.follows .mixedOrders=true) (c:(As ops N&&P9 ops m&&K9 ops m&&Fy ops&&Nat.ble m ops.size&&Sd ops m eff eff.length [] []&&eff.all (λe=>Nat.blt e m&&(match ops[e]? with|some o=>plainOp o.op|none=>false))&&S3 eff)=true) (d:a.tmps.size=N)
  (h:∀w1,Ext w w1->D w1/\WT P r ops D m eff J eff.length [] a w1) (f:∀a w,J a w->WI P r ops Q m a w):WP P r (.region id ops true) Q a w :=
 A1j m eff J b c d (h _ (Sz w)).1 (h _ (Sz w)).2 f
theorem A6m {f:FuncId} {c:Code} (d:P.funcs[f]? = some fn) (hb:fn.body=some c) (N:Nat) (M:List (Nat×Value)) (e:fn.ntmps=N)
  (b:Nat.ble args.size N=true) (g:M.map (λp=>(args++Array.replicate (N-args.size) undef).getD p.1 undef)=M.map Prod.snd) (h:∀a w1,w1=w->Fr N [] M a->WP P none c (bodyPost P fn R) a w1):Calls P f args w R :=
 A2d d hb N M e b g λa=>h a w rfl
theorem Py {cs:List Cd} {s:Sem Value} (h:Bc cs=false):Ob.ok P T D (.run cs s v):=λb=>by rw [h] at b;cases b
theorem Yw {cs:List Cd} {f:FuncId} (h:Bc cs=false):Ob.ok P T D (.call cs f args v):=λb=>by rw [h] at b;cases b
theorem Cb {cs:List Cd} {i:Nat} {c:Cd} (hi:cs[i]? = some c) (h:(c.p==c.want)=false):Bc cs=false:=by
 cases b:Bc cs with
 | false=>rfl
 | true =>
  have:=X0.1 b c (List.mem_of_getElem? hi);rw [this] at h;simp at h
end
section
theorem A4h {ps:Array Tmp} {assign body:Code} {gf:FuncId} {lb:Array Value} (args:Nat->Array Value) (N1:List Res->Prop) (N2:Code->List Res->Prop) (n:Fr N ds M a) (s:lookM M g=some (.func (.func gf) #[] lb)) (t:St w0 H w)
  (b:∀l,#[.func (.yield l) #[] #[]]++lb=args l) (k:∀args,pureSem P (callFunc gf args)=some (.enter gf args))
  (d:∀fn l D rec w1,rec=B1f a ps assign body D fn->St w0 (Dl l (rec .ready none)::Dl D (.deferred (some []))::H) w1 ->
   Calls P gf (args l) w1 (λe w3=>∃v,e=.returned v /\
    ((∃H1,N1 H1/\St w0 (Dl l (rec .ready none)::Dl D (.deferred (some []))::H1) w3)\/∃c H2,N2 c H2/\St w0 (Dl l (rec .done (some c))::Dl D (.deferred (some []))::H2) w3)))
  (f:∀D a' w' H1,N1 H1->Fr N (⟨.collected D,#[]⟩::ds) M a'->St w0 (Dl D (.deferred (some []))::H1) w'->Q .normal a' w')
  (j:∀D c a' w' H2,N2 c H2->Fr N (⟨.collected D,#[]⟩::ds) M a'->St w0 (Dl D (.deferred (some []))::H2) w'->WP P none c Q a' w'):WP P none (.rangeFunc (.tmp g) ps assign body) Q a w:=by
 refine wpIn_rangeFunc ?_;intro fn u;rw [show (F0 none).round=none from rfl];obtain ⟨W1,m⟩:∃W1,(w.alloc (.deferred (some []))).alloc (B1f a ps assign body w.heap.size fn .ready none)=W1:=⟨_,rfl⟩;have x:(Instr.enterLoop fn a.tmps ps assign body none).run P w=.ok (w.heap.size+1,[{ target:=.collected w.heap.size,args:=#[] }]) W1:=by rw [←m];exact run_enterLoop_outer _ _ _ _ _
 refine ⟨w.heap.size+1,[{ target:=.collected w.heap.size,args:=#[] }],W1,{ target:=.fn (.func gf) lb,args:=#[.func (.yield (w.heap.size+1)) #[] #[]] },W1,gf,
  #[.func (.yield (w.heap.size+1)) #[] #[]]++lb,W1,x,?_,λ_ _=>trivial,?_,λh=>by simp [F0,Fence.wide] at h,?_⟩
 ·have o:a.eval (.tmp g)=.func (.func gf) #[] lb:=n.get s;simp only [resolve,o];simp [go_sem]
 ·simp only [invoke];exact Bd _ _ (k _) _
 ·rw [b];refine Lt.2 (Calls.mono (d fn (w.heap.size+1) w.heap.size _ W1 rfl ?_) ?_)
  ·rw [←m];have h1:=(t.allocObj (.deferred (some []))).allocObj (B1f a ps assign body w.heap.size fn .ready none)
   simpa using h1
  ·rintro e w3 ⟨v,rfl,h⟩;have fr:Fr N (⟨.collected w.heap.size,#[]⟩::ds) M { a with defers:=[{ target:=.collected w.heap.size,args:=#[] }]++a.defers }:=⟨n.size,by simp [n.defers],n.slot⟩;rcases h with ⟨H1,p,h⟩|⟨c,H2,q,h⟩
   ·have r:=h.res (i:=0) rfl;refine ⟨none,_,run_endLoop (P:=P) r (by simp),?_⟩;exact f _ _ _ _ p fr (h.putObj (i:=0) _ rfl).drop1
   ·have r:=h.res (i:=0) rfl;refine ⟨some c,_,run_endLoop (P:=P) r (by simp),?_⟩;exact j _ c _ _ _ q fr (h.putObj (i:=0) _ rfl).drop1
theorem Uq {f:FuncId} {c:Code} (d:P.funcs[f]? = some fn) (hb:fn.body=some c) (N:Nat) (M:List (Nat×Value)) (e:fn.ntmps=N)
  (b:Nat.ble args.size N=true) (g:M.map (λp=>(args++Array.replicate (N-args.size) undef).getD p.1 undef)=M.map Prod.snd) (h:∀a w1,w1=w->Fr N (Pv []) M a->WP P none c (bodyPostM (F0 none) 0 P fn R) a w1):Calls P f args w R :=
 A6l d hb N M e b g λa=>h a w rfl
end
section
variable {A R G:List Res} {f:Res}
theorem St.rot (A:List Res) (h:St w0 (A++(f::(R++G))) w):St w0 (f::(R++(G++A))) w :=
 h.perm (by
  have:(A++(f::(R++G))).Perm ((f::(R++G))++A):=List.perm_append_comm
  simpa [List.append_assoc] using this)
theorem St.unrot (A:List Res) (h:St w0 (f::(R++(G++A))) w):St w0 (A++(f::(R++G))) w :=
 h.perm (by
  have:((f::(R++G))++A).Perm (A++(f::(R++G))):=List.perm_append_comm
  simpa [List.append_assoc] using this)
end
structure EndsC (P:Program) (ops:Array Oper) (n k:Nat) (M:List (Nat×Value)) (M':List (Nat×En)) (obs:List Ob):Prop where
 eq:((evalSeg P ops n k (ofM M) (obs.map Ob.v)).map λx=>(M'.map (λp=>lookE x.1 p.1),x.2))=some (M'.map (λp=>some p.2),obs)
section
variable {M':List (Nat×En)}
theorem Y8 (l:Trans T) (h:EndsC P ops n k M M' obs) (m:(M'.all λp=>Bc p.2.conds)=true) (D:World->Prop) (e:Obs P T D obs):∃(Φ:List Asn),Φ.length=n/\Seg P r ops T D Φ k (toA (ofM M))/\(∀φ∈Φ,V4 T φ) /\
  ∀a' w',a'.tmps.size=N->a'.defers=ds->EnvOk (We ops Φ k (toA (ofM M))) a' w'->Fr N ds (M'.map λp=>(p.1,p.2.v)) a':=by
 have h:=h.eq
 cases b:evalSeg P ops n k (ofM M) (obs.map Ob.v) with
 | none=>rw [b] at h;simp at h
 | some x =>
  obtain ⟨E',obs'⟩:=x;rw [b] at h;simp only [Option.map_some,Option.some.injEq,Prod.mk.injEq] at h;obtain ⟨h1,rfl⟩:=h;obtain ⟨Φ,o,c,f,d⟩:=Vg (r:=r) l n k _ _ _ _ b (Ti M) e;refine ⟨Φ,o,c,f,λa' w' s hd i=>⟨s,hd,?_⟩⟩;intro q t;obtain ⟨p,j,rfl⟩:=List.mem_map.1 t;rw [d] at i;have g:lookE E' p.1=some p.2:=List.map_inj_left.1 h1 p j;have:=i p.1 (λv _=>v=p.2.val) (by rw [Kz,g];rfl);have u:=List.all_eq_true.1 m p j
  simpa [En.val,u] using this
theorem Vw (k':Nat) (M':List (Nat×En)) (f:Fr N ds M a) (c:As ops N=true) (g:Obs P (λa b=>b=a) (λx=>x=w) obs) (h:EndsC P ops n k M M' obs) (j:(M'.all λp=>Bc p.2.conds)=true) (l:k+n=k')
  (next:∀a',Fr N ds (M'.map λp=>(p.1,p.2.v)) a'->WI P r ops Q k' a' w):WI P r ops Q k a w:=by
 obtain ⟨Φ,m,d,i,e⟩:=Y8 (r:=r) (N:=N) (ds:=ds) Rg h j (λx=>x=w) g;refine A1l Rg (λ_ _ h k=>k.trans h) c Φ k _ a w d i (Q6 _ _) rfl f.size (M6 f w) ?_;intro a' w' o q hd s;subst o;rw [m,l];exact next a' (e a' w' q (hd.trans f.defers) s)
end
def A9n:List Value->Value|[v]=>v|vs=>.tuple vs.toArray
def exc {ε α β:Type} (y:Except ε α) (f:ε->β) (g:α->β):β:=match y with|.error e=>f e|.ok x=>g x
theorem Zc {ε:Type} {y:Except ε α} {e:ε} {f:ε->β} {g:α->β} {z:β} (h:exc y f g=z) (b:y=.error e):f e=z:=by subst b;exact h
theorem Zd {ε:Type} {y:Except ε α} {x:α} {f:ε->β} {g:α->β} {z:β} (h:exc y f g=z) (b:y=.ok x):g x=z:=by subst b;exact h
section
theorem WI.consQ {i:Nat} (ho:ops[i]? = some o) (b:Region.wanted o (yielded ops a.tmps)=true)
  (h:o.wpIn (F0 r) 0 P a w (λa w=>WI P r ops Q (i+1) a w) Q):WI P r ops Q i a w:=by
 have hi:i<ops.size:=(Array.getElem?_eq_some_iff.1 ho).1;have e:List.range' i (ops.size-i)=i::List.range' (i+1) (ops.size-(i+1)):=by
  rw [show ops.size-i=(ops.size-(i+1))+1 by omega,List.range'_succ]
 unfold WI;rw [e,wpOpsIn_cons];unfold Go.wpOpIn;rw [ho];simp only [b,if_true];exact h
theorem B5a (M':Value->List (Nat×Value)) {f:FuncId} {R:Value->World->Prop} {Rp:List PanicEntry->World->Prop} (g:Fr N ds M a) (b:As ops N=true) (hs:CallAt P ops k M f args)
  (i:Calls P f args w (λe w'=>(∃v,e=.returned v/\R v w')\/∃ch,e=.panicked ch/\Rp ch w')) (j:∀v,NextM ops k M v (M' v))
  (l:∀ch w',Rp ch w'->Q (.panic ch) a w')
  (next:∀v w' a',R v w'->Fr N ds (M' v) a'->WI P r ops Q (k+1) a' w'):WI P r ops Q k a w:=by
 have hs:=hs.eq
 cases ho:plainAt ops k M with
 | none=>rw [ho] at hs;simp at hs
 | some o =>
  rw [ho] at hs;simp only [Option.bind_some] at hs
  split at hs
  ·rename_i f' args' c
   simp at hs;obtain ⟨rfl,rfl⟩:=hs;obtain ⟨h1,m,n⟩:=H7 (r:=r) ho g;refine WI.consQ h1 m ⟨λ_ _=>trivial,?_⟩
   change o.uponIn (F0 r) 0 P a _ Q ((o.semAt r a.eval).run P w)
   rw [n,Bd _ _ c w];refine ⟨λh=>by simp [F0,Fence.wide] at h,Lt.2 (Calls.mono i ?_)⟩;rintro e w'' (⟨v,rfl,d⟩|⟨ch,rfl,d⟩)
   ·exact next v w'' _ d (Fp h1 b g (j v))
   ·exact l ch w'' d
  ·simp at hs
structure PanicAt (ops:Array Oper) (k:Nat) (M:List (Nat×Value)) (t:TypeId) (v:Value):Prop where
 eq:((plainAt ops k M).bind λo=>match o.op with|.panic x=>some (rhoE (ofM M) x)|_=>none)=some (.iface t v)
theorem A9e {t:TypeId} (c:Fr N ds M a) (hs:PanicAt ops k M t v) (h:Q (.panic [{ v:=.iface t v,recovered:=false }]) a w):WI P r ops Q k a w:=by
 have hs:=hs.eq
 cases ho:plainAt ops k M with
 | none=>rw [ho] at hs;simp at hs
 | some o =>
  rw [ho] at hs;simp only [Option.bind_some] at hs
  split at hs
  ·rename_i x b
   simp only [Option.some.injEq] at hs;obtain ⟨h1,d,e⟩:=H7 (r:=r) ho c;refine WI.consQ h1 d ⟨λ_ _=>trivial,?_⟩
   change o.uponIn (F0 r) 0 P a _ Q ((o.semAt r a.eval).run P w)
   have:(execOp (rhoE (ofM M)) o).run P w=.halt (.panic (.iface t v)) w:=by
    unfold execOp;rw [b];simp [Instr.panic,hs,goPanic]
   rw [e,this];exact h
  ·simp at hs
theorem A2e {ch:List PanicEntry} (b:Fr N [] M a) (c:R (.panicked ch) w):bodyPost P fn R (.panic ch) a w:=⟨b.defers,c⟩
structure DeferAt (P:Program) (ops:Array Oper) (k:Nat) (M:List (Nat×Value)) (d:Deferred):Prop where
 eq:((ops[k]?).bind λo=>match o.guard with
  | none=>bif o.op.operands.toList.all (okOperand (ofM M) [])&&(match o.op with|.defer _=>true|_=>false) then (match pureSem P (execOp (rhoE (ofM M)) o) with|some (.defer d)=>some d|_=>none) else none
  | some _=>none)=some d
theorem A3v (k':Nat) (d:Deferred) (M':List (Nat×Value)) (j:Fr N ds M a) (i:As ops N=true) (hs:DeferAt P ops k M d) (q:NextM ops k M undef M') (r:k+1=k')
  (next:∀a',Fr N (d::ds) M' a'->WI P none ops Q k' a' w):WI P none ops Q k a w:=by
 subst r;have hs:=hs.eq
 cases ho:ops[k]? with
 | none=>rw [ho] at hs;simp at hs
 | some o =>
  rw [ho] at hs;simp only [Option.bind_some] at hs
  cases l:o.guard with
  | some g=>rw [l] at hs;simp at hs
  | none =>
   rw [l] at hs;simp only at hs
   cases f:(o.op.operands.toList.all (okOperand (ofM M) [])&&(match o.op with|.defer _=>true|_=>false)) with
   | false=>rw [f] at hs;simp at hs
   | true =>
    rw [f] at hs;simp only [cond_true] at hs
    split at hs
    ·rename_i d' m
     simp only [Option.some.injEq] at hs;subst hs;rw [Bool.and_eq_true,List.all_eq_true] at f;have n:execOp a.eval o=execOp (rhoE (ofM M)) o:=by
      refine execOp_congr o (λcs b s=>by have:=f.2;rw [s] at this;simp at this) ?_;intro x u;refine Je (cur:=[]) (Ti M) (λc f=>by simp at f) rfl (f.1 x (by simpa using u)) ?_;intro t _ e he;obtain ⟨h1,v⟩:=Ts he;have:=j.slot _ v;simp only at this;rw [this];simp [En.val,h1,Bc]
     refine WI.consQ ho (by simp [Region.wanted,l]) ⟨λ_ _=>trivial,?_⟩
     change o.uponIn (F0 none) 0 P a _ Q ((o.semAt none a.eval).run P w)
     rw [Oper.semAt_none,n,Bd _ _ m w];have p:Fr N (d'::ds) M { a with defers:=d'::a.defers }:=⟨j.size,by simp [j.defers],j.slot⟩;exact next _ (Fp ho i p q)
    ·simp at hs
theorem Wh {f:FuncId} {c:Code} (e:P.funcs[f]? = some fn) (hb:fn.body=some c) (N:Nat) (M:List (Nat×Value)) (d:fn.ntmps=N)
  (b:Nat.ble args.size N=true) (g:M.map (λp=>(args++Array.replicate (N-args.size) undef).getD p.1 undef)=M.map Prod.snd) (h:∀a w1,w1=w->Fr N [] M a->WP P none c (bodyPostDIn (F0 none) 0 P fn R) a w1):Calls P f args w R:=by
 refine Lt (r:=none) (n:=0) |>.1 (callsIn_of_wp_defers e hb trivial ?_ rfl);refine h _ _ rfl ⟨?_,rfl,λp i=>?_⟩
 ·have:=Nat.le_of_ble_eq_true b;simp [d];omega
 ·rw [d];exact List.map_inj_left.1 g p i
theorem A1k (rs:List ResultVar) (vs:List Value) (c:Fr N ds M a) (b:fn.results=rs.toArray) (h:U7 P w M rs vs) :
  (results fn a.tmps).run P w=.ok (A9n vs) w:=by
 have d:=Ws (a:=a) rs vs h c;have e:results fn a.tmps=(do let vs ←fn.results.mapM (Uz a.tmps);pure (if h:vs.size=1 then vs[0] else .tuple vs)):=by
  unfold results
  congr 1
 rw [e,b,List.mapM_toArray];simp [d];rcases vs with _|⟨v,_|⟨u,vs⟩⟩<;>simp [A9n]
theorem A2f (rs:List ResultVar) (vs:List Value) (c:Fr N [] M a) (b:fn.results=rs.toArray) (h:U7 P w M rs vs)
  (d:R (.returned (A9n vs)) w):bodyPostDIn (F0 none) 0 P fn R .ret a w:=by
 show LeavesIn (F0 none) 0 P fn a.tmps R a.defers .returning w;rw [c.defers];exact ⟨_,A1k rs vs c b h,d⟩
theorem Yg {fv:Nat} {cap:Array Value} (rs:List ResultVar) (d:Fr N [⟨.fn (.func fv) cap,#[]⟩] M a) (c:fn.results=rs.toArray) (b:∀args,pureSem P (callFunc fv args)=some (.enter fv args))
  (h:CallsDIn (F0 none) 0 P fv cap .returning w λe u' w'=>∃v,e=.returned v/\settle u'=.returning/\∃vs,U7 P w' M rs vs/\R (.returned (A9n vs)) w'):bodyPostDIn (F0 none) 0 P fn R .ret a w:=by
 show LeavesIn (F0 none) 0 P fn a.tmps R a.defers .returning w;rw [d.defers];refine leavesIn_cons (f:=fv) (args:=cap) (by simp) (λh=>by simp [F0,Fence.wide] at h) ?_ (λ_ _=>trivial) (CallsDIn.mono h ?_)
 ·simp only [invoke];rw [show (#[]:Array Value)++cap=cap by simp];exact Bd _ _ (b cap) w
 ·rintro e u' w' ⟨v,rfl,g,vs,i,j⟩;show LeavesIn (F0 none) 0 P fn a.tmps R [] (settle u') w';rw [g];exact ⟨_,A1k rs vs d c i,j⟩
theorem A40 {fv:Nat} {cap:Array Value} {ch:List PanicEntry} (rs:List ResultVar) (d:Fr N [⟨.fn (.func fv) cap,#[]⟩] M a) (c:fn.results=rs.toArray) (b:∀args,pureSem P (callFunc fv args)=some (.enter fv args))
  (h:CallsDIn (F0 none) 0 P fv cap (.panicking ch) w λe u' w'=>∃v,e=.returned v/\settle u'=.returning/\∃vs,U7 P w' M rs vs/\R (.returned (A9n vs)) w'):bodyPostDIn (F0 none) 0 P fn R (.panic ch) a w:=by
 show LeavesIn (F0 none) 0 P fn a.tmps R a.defers (.panicking ch) w;rw [d.defers];refine leavesIn_cons (f:=fv) (args:=cap) (by simp) (λh=>by simp [F0,Fence.wide] at h) ?_ (λ_ _=>trivial) (CallsDIn.mono h ?_)
 ·simp only [invoke];rw [show (#[]:Array Value)++cap=cap by simp];exact Bd _ _ (b cap) w
 ·rintro e u' w' ⟨v,rfl,g,vs,i,j⟩;show LeavesIn (F0 none) 0 P fn a.tmps R [] (settle u') w';rw [g];exact ⟨_,A1k rs vs d c i,j⟩
def Xi:FrameMode->Value
 | .panicking ({ v,recovered:=false,goexit:=false }::_)=>v
 | _=>.nilIface
def T9:FrameMode->FrameMode
 | .panicking ({ v,recovered:=false,goexit:=false }::older)=>.panicking ({ v,recovered:=true }::older)
 | u=>u
theorem A35 (c:Frame) (cs:List Frame):(recoverD (c::cs)=some (Xi c.mode,{ c with mode:=T9 c.mode }::cs))\/(recoverD (c::cs)=none/\Xi c.mode=.nilIface/\T9 c.mode=c.mode):=by
 cases b:c.mode with
 | run=>exact .inr (by simp [recoverD,Xi,T9,b])
 | returning=>exact .inr (by simp [recoverD,Xi,T9,b])
 | panicking l =>
  cases l with
  | nil=>exact .inr (by simp [recoverD,Xi,T9,b])
  | cons x l =>
   obtain ⟨v,rc,ge⟩:=x
   cases rc<;>cases ge
   ·exact .inl (by simp [recoverD,Xi,T9,b])
   ·exact .inr (by simp [recoverD,Xi,T9,b])
   ·exact .inr (by simp [recoverD,Xi,T9,b])
   ·exact .inr (by simp [recoverD,Xi,T9,b])
structure RecAt (P:Program) (ops:Array Oper):Prop where
 eq:((ops[0]?).map λo=>(o.guard.isNone,match pureSem P (execOp (λ_=>undef) o) with|some .recover=>true|_=>false,o.op.operands.size,plainOp o.op))=some (true,true,0,true)
theorem Mg {f:FuncId} {rest:Code} {u:FrameMode} {R:Ending->FrameMode->World->Prop} (hf:P.funcs[f]? = some fn) (hb:fn.body=some (.seq (.region id ops false) rest)) (N:Nat) (M M':List (Nat×Value)) (hN:fn.ntmps=N)
  (b7:Nat.ble args.size N=true) (hM:M.map (λp=>(args++Array.replicate (N-args.size) undef).getD p.1 undef)=M.map Prod.snd) (t:As ops N=true) (hs:RecAt P ops) (b8:NextM ops 0 M (Xi u) M')
  (h:∀a,Fr N [] M' a->WI P none ops (Exit.then (WP P none rest (bodyPost P fn λe w=>R e (T9 u) w)) (bodyPost P fn λe w=>R e (T9 u) w)) 1 a w):CallsDIn (F0 none) 0 P f args u w R:=by
 have hs:=hs.eq
 cases ho:ops[0]? with
 | none=>rw [ho] at hs;simp at hs
 | some o =>
 rw [ho] at hs;simp only [Option.map_some,Option.some.injEq,Prod.mk.injEq] at hs;obtain ⟨s,n,b9,y⟩:=hs;have z:Fr N [] M { tmps:=args++Array.replicate (fn.ntmps-args.size) undef,defers:=[] }:=by
  refine ⟨?_,rfl,λp hp=>?_⟩
  ·have:=Nat.le_of_ble_eq_true b7;simp [hN];omega
  ·rw [hN];exact List.map_inj_left.1 hM p hp
 refine callsDIn_of_wpSIn hf hb trivial λc₀ cs hu=>wpSIn_seq ?_;generalize ({ tmps:=args++Array.replicate (fn.ntmps-args.size) undef,defers:=[] }:Act)=a at z;have c2:Region.wanted o (yielded ops a.tmps)=true:=by
  cases b0:o.guard with
  | none=>simp [Region.wanted,b0]
  | some g=>rw [b0] at s;simp at s
 have c3:execOp a.eval o=execOp (λ_=>undef) o:=by
  refine execOp_congr o (λcs b hh=>by rw [hh] at y;simp [plainOp] at y) ?_;intro x hx;have:o.op.operands=#[]:=Array.eq_empty_of_size_eq_zero b9;rw [this] at hx;simp at hx
 have q:(execOp a.eval o).run P w=.ok .recover w:=by
  rw [c3]
  split at n
  ·rename_i hp;exact Bd _ _ hp w
  ·simp at n
 have hi:0<ops.size:=(Array.getElem?_eq_some_iff.1 ho).1;have i:List.range ops.size=0::List.range' 1 (ops.size-1):=by
  rw [List.range_eq_range',show ops.size=(ops.size-1)+1 by omega,List.range'_succ];simp
 intro b k c4 j b1 d;have hq:=h (a.put o.dst (Xi u)) (Fp ho t z b8);have b2:∀cs',cs'={ c₀ with mode:=T9 u }::cs->step P (lone (b.atR a (.inRegion ops (List.range ops.size)::k)) (c₀::cs) w)=.next (lone (b.atR (a.put o.dst (Xi u)) (.inRegion ops (List.range' 1 (ops.size-1))::k)) cs' w):=by
  rintro cs' rfl;rw [i];have s:=stepGR_op (P:=P) (b:=b) (k:=k) (cs:=c₀::cs) (w:=w) (rest:=List.range' 1 (ops.size-1)) ho c2;rw [j,Oper.semAt_none] at s;have r:∀v,(b.atR a (.inRegion ops (0::List.range' 1 (ops.size-1))::k)).finish v=b.atR (a.put o.dst v) (.inRegion ops (List.range' 1 (ops.size-1))::k):=by
   intro v;rw [Frame.finish_atR,ho];rfl
  have hk:(b.atR a (.inRegion ops (0::List.range' 1 (ops.size-1))::k)).kind=.deferred:=c4;have m:=tryRecover_deferred hk (c₀::cs);rcases A35 c₀ cs with hr|⟨hr,hv,hm⟩
  ·rw [hu] at hr;refine step_lone_go ?_;rw [s,←r];simp only [Frame.atR,j] at m ⊢;simp [stepG.apply,q,m,hr]
  ·rw [hu] at hv hm;have hc:({ c₀ with mode:=T9 u }:Frame)=c₀:=by rw [hm,←hu]
   refine step_lone_go ?_;rw [s,hc,hv,←r];simp only [Frame.atR,j] at m ⊢;simp [stepG.apply,q,m,hr]
 obtain ⟨e,a',w',c,b3⟩:=wp_opsIn _ _ _ hq b k ({ c₀ with mode:=T9 u }::cs) j b1 d;refine ⟨e,a',{ c₀ with mode:=T9 u }::cs,w',rfl,?_,.of_steps (StepsIn.trans (.one (fenced_calm b1 d rfl) stepR_region) (.one (To _ _ _) (b2 _ rfl))) b3⟩;have hB:∀e a w,bodyPost P fn (λe w=>R e (T9 u) w) e a w->bodyPostS P fn c₀ cs R e a ({ c₀ with mode:=T9 u }::cs) w:=by
  intro e a w hb
  cases e with
  | normal=>obtain ⟨h1,v,h2,h3⟩:=hb;exact ⟨h1,_,rfl,v,h2,h3⟩
  | ret=>obtain ⟨h1,v,h2,h3⟩:=hb;exact ⟨h1,_,rfl,v,h2,h3⟩
  | panic ch=>obtain ⟨h1,h2⟩:=hb;exact ⟨h1,_,rfl,h2⟩
  | outgrown=>exact ⟨_,hb⟩
  | exit id=>exact hb.elim
  | goto l=>exact hb.elim
 cases e with
 | normal=>exact wpSIn_of_wpIn rfl (wpIn_mono c λe a w h=>hB e a w h)
 | ret=>exact hB .ret _ _ c
 | panic ch=>exact hB (.panic ch) _ _ c
 | outgrown=>exact hB .outgrown a' w' c
 | exit id=>exact c.elim
 | goto l=>exact c.elim
end
section
theorem A0u (x y:Option Value):x.getD undef=y.getD undef->(match x with|some (.bool b)=>some b|_=>none)=(match y with|some (.bool b)=>some b|_=>none):=by
 intro h
 cases x with
 | none =>
  cases y with
  | none=>rfl
  | some y=>simp at h;subst h;rfl
 | some x =>
  cases y with
  | none=>simp at h;subst h;rfl
  | some y=>simp at h;subst h;rfl
theorem A0a (c:Fr N ds M a) (hs:SkipAt ops k M):∃o g,ops[k]? = some o/\o.guard=some g/\guardIs ops M g=some false:=by
 have hs:=hs.eq
 cases ho:ops[k]? with
 | none=>rw [ho] at hs;simp at hs
 | some o =>
  rw [ho] at hs;simp only [Option.bind_some] at hs
  cases b:o.guard with
  | none=>rw [b] at hs;simp at hs
  | some g=>rw [b] at hs;exact ⟨o,g,rfl,b,by simpa using hs⟩
theorem B4n (M':List (Nat×Value)) (c:Fr N ds M a) (b:As ops N=true) (hs:SkipAt ops k M) (e:NextM ops k M undef M')
  (next:∀a',Fr N ds M' a'->K a' w):SK P r ops k K a w:=by
 obtain ⟨o,g,ho,f,d⟩:=A0a c hs;have i:=Pg d c;refine ⟨o,ho,?_⟩;unfold OpG;have:Region.wanted o (yielded ops a.tmps)=false:=by simp only [Region.wanted,f];exact i
 rw [this];exact next _ (Fp ho b c e)
theorem B6t (M':List (Nat×Value)) (e:Fr N ds M a) (d:As ops N=true) (f:eff.contains k=false) (hs:SkipAt ops k M) (m:NextM ops k M undef M')
  (next:∀a',Fr N ds M' a'->WRun P r ops D eff K rest a' w):WRun P r ops D eff K (k::rest) a w:=by
 obtain ⟨o,g,ho,l,i⟩:=A0a e hs;have n:=Pg i e;have hd:dstAt ops k=o.dst:=by simp [dstAt,ho]
 rw [WRun,f];refine ⟨undef,⟨o,ho,λa' w' c _=>?_⟩,?_⟩
 ·unfold OpG;have:Region.wanted o (yielded ops a'.tmps)=false:=by
   simp only [Region.wanted,l];rw [←n]
   congr 1
   obtain ⟨j,b⟩:=g;unfold yielded
   cases hj:(ops[j]?).bind (·.dst) with
   | none=>rfl
   | some t =>
    have:=c t (by simp [Oper.looksAt,l,hj]);rw [Array.getD_eq_getD_getElem?,Array.getD_eq_getD_getElem?] at this;simp only [Option.bind_some];exact A0u _ _ this
  rw [this];exact ⟨rfl,rfl⟩
 ·rw [hd];exact next _ (Fp ho d e m)
structure EndsLC (P:Program) (ops:Array Oper) (rs:List Nat) (M:List (Nat×Value)) (M':List (Nat×En)) (obs:List Ob):Prop where
 eq:((evalL P ops rs (ofM M) (obs.map Ob.v)).map λx=>(M'.map (λp=>lookE x.1 p.1),x.2))=some (M'.map (λp=>some p.2),obs)
theorem B6h (rs:List Nat) (M':List (Nat×En)) (e:Fr N ds M a) (d:As ops N=true) (f:rs.all (λi=>!eff.contains i)=true) (g:Obs P (λa b=>b=a) D obs) (h:EndsLC P ops rs M M' obs) (l:(M'.all λp=>Bc p.2.conds)=true)
  (next:∀a',Fr N ds (M'.map λp=>(p.1,p.2.v)) a'->WRun P r ops D eff K rest a' w):WRun P r ops D eff K (rs++rest) a w:=by
 have h:=h.eq
 cases c:evalL P ops rs (ofM M) (obs.map Ob.v) with
 | none=>rw [c] at h;simp at h
 | some x =>
  obtain ⟨E',obs'⟩:=x;rw [c] at h;simp only [Option.map_some,Option.some.injEq,Prod.mk.injEq] at h;obtain ⟨h1,rfl⟩:=h;refine Zq d rs _ _ _ _ a c (Ti M) g f e.size (M6 e w) ?_;intro a' m hd n;refine next a' ⟨m,hd.trans e.defers,λq o=>?_⟩
  obtain ⟨p,k,rfl⟩:=List.mem_map.1 o;have j:lookE E' p.1=some p.2:=List.map_inj_left.1 h1 p k;have:=n p.1 (λv _=>v=p.2.val) (by rw [Kz,j];rfl);have s:=List.all_eq_true.1 l p k
  simpa [En.val,s] using this
end
section
variable {H:Type} {enc:TypeId×Value->H} {t e:TypeId} {cs:List Value}
def Reads (enc:TypeId×Value->H) (P:Program) (w:World) (t:TypeId) (cs:List Value):Prop:=∃fuel d,DataW.trod enc P w 0 (λ_=>true) true fuel t cs=some d
theorem Reads.of {d:DataW H} {p:List MemPlace} (h:DataW.Trod enc P w 0 (λ_=>true) true t v d p):Reads enc P w t v.cells.toList:=by
 obtain ⟨f,h⟩:=h;exact ⟨f,_,h⟩
theorem Reads.int {k:IntKind} (b:P.underlying t=some (.int k)) (h:Reads enc P w t cs):∃n,cs=[.int k n]/\(Lit.int k n).wf=true:=by
 obtain ⟨f,d,h⟩:=h;obtain ⟨n,h1,_,c⟩:=DataW.trod_int b h;exact ⟨n,h1,c⟩
theorem Reads.len (b:P.underlying t=some (.struct fs)) (h:Reads enc P w t cs):cs.length=P.cellsOf t:=by
 obtain ⟨f,d,h⟩:=h;obtain ⟨_,_,_,_,c,_⟩:=DataW.trod_struct b h;exact c
theorem Reads.field (e:P.underlying t=some (.struct fs)) (h:Reads enc P w t cs) (i:Nat) {f:Field} (c:fs[i]? = some f) (m:Nat) (g:P.cellsOf f.type=m):Reads enc P w f.type ((cs.drop f.offset).take m):=by
 obtain ⟨fu,d,h⟩:=h;obtain ⟨xs,n,_,_,_,j,b⟩:=DataW.trod_struct e h;have hi:i<fs.size:=(Array.getElem?_eq_some_iff.1 c).1;have:=b i f c;rw [List.getElem?_eq_getElem (by omega),g] at this;exact ⟨n,_,this⟩
theorem Reads.arrLen (b:P.underlying t=some (.array n e)) (h:Reads enc P w t cs):cs.length=P.cellsOf t:=by
 obtain ⟨f,d,h⟩:=h;obtain ⟨_,_,_,_,c,_⟩:=DataW.trod_array b h;exact c
theorem Reads.part (c:P.underlying t=some (.array n e)) (h:Reads enc P w t cs) (i:Nat) (hi:i<n) (m:Nat) (f:P.cellsOf e=m):Reads enc P w e ((cs.drop (i*m)).take m):=by
 obtain ⟨fu,d,h⟩:=h;obtain ⟨xs,q,_,_,_,g,b⟩:=DataW.trod_array c h;have:=b i hi;rw [List.getElem?_eq_getElem (by omega),f] at this;exact ⟨q,_,this⟩
theorem Wx {R:β->α->Prop} {ok:α->Prop}:∀(css:List β),(∀c∈css,∃x,R c x/\ok x)->∃l,All2 R css l/\∀x∈l,ok x
 | [],_=>⟨[],.nil,by simp⟩
 | c::css,h=>by
  obtain ⟨x,d,e⟩:=h c (by simp);obtain ⟨l,f,b⟩:=Wx css (λc g=>h c (by simp [g]));exact ⟨x::l,.cons d f,by simpa using ⟨e,b⟩⟩
theorem Reads.row (ht:P.underlying t=some (.slice e)) (r:P.cellsOf e=sz) (y:0<sz) (h:Reads enc P w t cs) :
  ∃(ad:Option Addr) (cap:Nat) (css:List (List Value)),cs=[.slice ad css.length cap]/\ArrM (Cv w) sz (fN sz) ad cap css/\∀c∈css,c.length=sz/\Reads enc P w e c:=by
 obtain ⟨f,d,h⟩:=h;rcases DataW.trod_slice ht h with ⟨rfl,_⟩|⟨a,len,cap,elems,rest,n,_,rfl,_,_,hl,hm,z,m,_,_⟩
 ·exact ⟨none,0,[],rfl,ArrM.nil,by simp⟩
 ·rw [r] at m;have g:∀i,i<len->∃c,w.cells? 0 (a.add (i*sz)) sz=some c/\Reads enc P w e c:=by
   intro i hi;have:=m i hi;rw [List.getElem?_eq_getElem (by omega),Option.bind_eq_some_iff] at this;obtain ⟨c,h1,l⟩:=this;exact ⟨c,h1,n,_,l⟩
  let css:=(List.range len).map λi=>(w.cells? 0 (a.add (i*sz)) sz).getD []
  have o:css.length=len:=by simp [css]
  have p:∀i,i<len->∃c,css[i]? = some c/\w.cells? 0 (a.add (i*sz)) sz=some c/\Reads enc P w e c:=by
   intro i hi;obtain ⟨c,h1,l⟩:=g i hi;exact ⟨c,by simp [css,hi,h1],h1,l⟩
  have b:∀c∈css,c.length=sz/\Reads enc P w e c:=by
   intro c s;obtain ⟨i,hi,he⟩:=List.mem_iff_getElem.1 s;obtain ⟨c',h1,l,h3⟩:=p i (by omega);rw [List.getElem?_eq_getElem hi,he] at h1;obtain rfl:=Option.some.inj h1;exact ⟨(World.cells?_some l).2.1,h3⟩
  refine ⟨some a,cap,css,by rw [o],Arr.toM ⟨rfl,some a,cap,rfl,?_,by omega,hm,λhn=>⟨a,rfl,?_,?_⟩⟩,b⟩
  ·exact Ft (C1 sz) css
  ·obtain ⟨c,h1,_⟩:=g 0 (by omega);have:=World.cells?_block h1 y
   simpa [Addr.add] using this
  ·intro j u hj;have v:j<(css.flatMap (fN sz)).length:=(List.getElem?_eq_some_iff.1 hj).1;rw [Ft (C1 sz),o] at v;have hd:j/sz<len:=Nat.div_lt_of_lt_mul (by rwa [Nat.mul_comm]);obtain ⟨c,h1,l,h3⟩:=p (j/sz) hd;have s:=(b c (List.mem_of_getElem? h1)).1;have k:=Nat.mod_lt j y;have q:j=j/sz*sz+j%sz:=by rw [Nat.mul_comm];exact (Nat.div_add_mod j sz).symm
   rw [q,R4 (C1 sz) css _ _ c h1 k] at hj;have x:fN sz c=c:=by simp [fN,←s]
   rw [x] at hj;have:=(World.cells?_some l).2.2 (j%sz) k;rw [Addr.add_add,←q] at this;rw [this,hj]
theorem Reads.sliceQ (g:P.underlying t=some (.slice e)) (d:P.cellsOf e=sz) (i:0<sz) {R:Rel α} {ok:α->Prop} (j:∀c,c.length=sz->Reads enc P w e c->∃x,R (Cv w) c x/\ok x) (h:Reads enc P w t cs) :
  ∃(ad:Option Addr) (cap:Nat) (css:List (List Value)) (l:List α),cs=[.slice ad l.length cap]/\ArrQ (Cv w) sz R ad cap css l/\∀x∈l,ok x:=by
 obtain ⟨ad,cap,css,rfl,k,b⟩:=Reads.row g d i h;obtain ⟨l,h1,m⟩:=Wx (R:=R (Cv w)) (ok:=ok) css (λc f=>j c (b c f).1 (b c f).2);exact ⟨ad,cap,css,l,by rw [h1.len],⟨k,h1⟩,m⟩
theorem Reads.slice (m:P.underlying t=some (.slice e)) (b:P.cellsOf e=sz) (n:0<sz) {ok:α->Prop} (o:∀c,c.length=sz->Reads enc P w e c->∃x,c=f x/\ok x) (p:∀x,(f x).length=sz) (h:Reads enc P w t cs) :
  ∃(ad:Option Addr) (cap:Nat) (l:List α),cs=[.slice ad l.length cap]/\ArrM (Cv w) sz f ad cap l/\∀x∈l,ok x:=by
 obtain ⟨ad,cap,css,l,rfl,⟨j,h1⟩,k⟩:=Reads.sliceQ (R:=RpF f) m b n o h;have d:css=l.map f:=by
  clear j h k
  induction h1 with
  | nil=>rfl
  | cons h _ ih=>rw [List.map_cons,←ih,←(show _=f _ from h)]
 subst d;refine ⟨ad,cap,l,rfl,λw' g=>?_,k⟩;have:=j w' g;have i:(l.map f).flatMap (fN sz)=l.flatMap f:=by
  rw [List.flatMap_map]
  congr 1
  funext x
  simp [fN,←p x]
 unfold Arr at this ⊢;rw [i] at this
 simpa using this
theorem Reads.struct (b:P.underlying t=some (.struct fs)) {r:Reach} {b0:Nat} (d:Value.okWide P w r b0 t v):∃cs:List Value,v=.agg cs.toArray/\v.cells.toList=cs:=by
 obtain ⟨c,rfl,_⟩:=WideShapes.okWide_struct b d;exact ⟨c.toList,by simp,by simp [Value.cells]⟩
end
abbrev iv (n:Int):Value:=.int .i64 n
abbrev pb (b:Nat):Value:=.pointer (some ⟨b,0,none⟩)
section
theorem esr {y:Code} (h:WI P r ops (Exit.then (λa w=>WP P r y Q a w) Q) 0 a w):WP P r (.seq (.region id ops false) y) Q a w:=Ad (WI.region h)
theorem wfn (b:Nat.beq k ops.size=true) (h:K a w):WI P r ops (Exit.then K Q) k a w:=WI.fin b (A7 h)
theorem rn (n k':Nat) (M':List (Nat×Value)) (c:Fr N ds M a) (next:∀a',Fr N ds M' a'->WI P r ops Q k' a' w) (b:As ops N=true:=by kernel_rfl) (h:Ends P ops n k M M' []:=by exact ⟨by kernel_rfl⟩) (d:k+n=k':=by rfl):WI P r ops Q k a w :=
 A37 k' M' c b A6 h d next
end
abbrev sv {α:Type} (ad:Option Addr) (l:List α) (cap:Nat):Value:=.slice ad l.length cap
abbrev sb (b n:Nat):Value:=.slice (some ⟨b,0,none⟩) n n
abbrev ln {α:Type} (l:List α):Int:=(l.length:Int)
abbrev fz (w:World) (μ:Frz):Res:=Eo w.heap.size μ
section
end
section
variable {e:Nat} {c:List α} {l:List β}
end
def A8d (P:Program) (g:TypeId->Value->Value->Option Bool) (xs ys:Array Value):List Field->Option Bool
 | []=>some true
 | f::fs =>
  if f.name ≠ "_" then
   match pureSem P (part f.type xs f.offset),pureSem P (part f.type ys f.offset) with
   | some a,some b=>(g f.type a b).bind λp=>(A8d P g xs ys fs).bind λq=>some (p&&q)
   | _,_=>none
  else A8d P g xs ys fs
def B38 (P:Program) (g:TypeId->Value->Value->Option Bool) (e:TypeId) (n:Nat) (xs ys:Array Value):List Nat->Option Bool
 | []=>some true
 | i::is =>
  match pureSem P (part e xs (i*n)),pureSem P (part e ys (i*n)) with
  | some a,some b=>(g e a b).bind λp=>(B38 P g e n xs ys is).bind λq=>some (p&&q)
  | _,_=>none
def eqB (P:Program):Nat->TypeId->Value->Value->Option Bool
 | 0,_,_,_=>none
 | d+1,t,x,y =>
  match P.underlying t,x,y with
  | some .bool,.bool a,.bool b=>some (a==b)
  | some (.int _),.int k a,.int k' b=>if k=k' then some (a==b) else none
  | some .string,.string a,.string b=>some (a==b)
  | some (.struct fs),.agg xs,.agg ys=>bif P.stoodInHeld t then none else A8d P (eqB P d) xs ys fs.toList
  | some (.array n e),.agg xs,.agg ys=>(pureSem P (sizeOf e)).bind λz=>B38 P (eqB P d) e z xs ys (List.range' 0 n)
  | _,_,_=>none
theorem A8e (g:TypeId->Value->Value->Option Bool) (d:Nat) (i:∀t x y b,g t x y=some b->∀w,(Op.equalIn d t x y).run P w=.ok b w) (xs ys:Array Value) :
  ∀(fs:List Field) (b:Bool),A8d P g xs ys fs=some b->∀w,(Op.eqFields d xs ys fs).run P w=.ok b w:=by
 intro fs
 induction fs with
 | nil=>intro b h w;cases h;rfl
 | cons f fs ih =>
  intro b h w;unfold A8d at h;unfold Op.eqFields
  split at h
  ·rename_i e
   rw [if_pos e]
   split at h
   ·rename_i a c j k
    obtain ⟨p,l,h⟩:=Option.bind_eq_some_iff.1 h;obtain ⟨q,m,h⟩:=Option.bind_eq_some_iff.1 h
    cases h
    simp only [Sem.run_bind,Bd _ _ j,Bd _ _ k,Result.andThen_ok,i _ _ _ _ l]
    cases p
    ·simp
    ·simp only [Bool.not_true,Bool.false_eq_true,if_false,Bool.true_and];exact ih q m w
   ·cases h
  ·rename_i e
   rw [if_neg e];exact ih b h w
theorem Xq:∀(d:Nat) (t:TypeId) (x y:Value) (b:Bool),eqB P d t x y=some b->∀w,(Op.equalIn d t x y).run P w=.ok b w:=by
 intro d
 induction d with
 | zero=>intro t x y b h;cases h
 | succ d ih =>
  intro t x y b h w;unfold eqB at h
  split at h
  ·rename_i f;cases h;simp [Op.equalIn,run_underlying f]
  ·rename_i f
   split at h
   ·rename_i j;cases h;subst j;simp [Op.equalIn,run_underlying f]
   ·cases h
  ·rename_i f;cases h;simp [Op.equalIn,run_underlying f]
  ·rename_i fs xs ys f
   cases hs:P.stoodInHeld t with
   | true=>rw [hs] at h;cases h
   | false =>
    rw [hs] at h;have g:P.fieldsOf t=fs:=by unfold Program.fieldsOf;rw [f]
    rw [run_equalIn_struct w d t xs ys (by rw [g];exact f) hs,g];exact A8e _ d ih xs ys _ _ h w
  ·rename_i n e xs ys f
   replace h:=Option.bind_eq_some_iff.1 h;obtain ⟨z,hz,h⟩:=h;simp only [Op.equalIn,Sem.run_bind,run_underlying f,Result.andThen_ok,Bd _ _ hz,Std.Legacy.Range.forIn_eq_forIn_range',Std.Legacy.Range.size,Nat.sub_zero,Nat.add_sub_cancel,Nat.div_one];generalize List.range' 0 n=is at h ⊢
   clear f
   induction is generalizing b with
   | nil=>cases h;simp
   | cons i is ih2 =>
    unfold B38 at h
    split at h
    ·rename_i a c k l
     obtain ⟨p,m,h⟩:=Option.bind_eq_some_iff.1 h;obtain ⟨q,o,h⟩:=Option.bind_eq_some_iff.1 h
     cases h
     simp only [List.forIn_cons,Sem.run_bind,Bd _ _ k,Bd _ _ l,Result.andThen_ok,ih _ _ _ _ m]
     cases p
     ·simp
     ·simp only [Bool.not_true,Bool.false_eq_true,if_false,Bool.true_and,Sem.run_pure,Result.andThen_ok];exact ih2 q o
    ·cases h
  ·cases h
section
variable {cs:List Cd} {t:TypeId} {xs ys:Array Value} {b:Bool}
theorem Vs (c:P.eqGuardType P.depth t=false) (h:eqB P 10000 t (.agg xs) (.agg ys)=some b):Ob.ok P T D (.run cs (eqS .eql t xs ys) (.bool b)):=by
 intro _ w _;simp only [eqS,Sem.run_bind,run_eqGuard_agg w .eql t _ _ xs ys c,Result.andThen_ok,run_eql_struct,Xq _ _ _ _ _ h]
theorem B2q (c:P.eqGuardType P.depth t=false) (h:eqB P 10000 t (.agg xs) (.agg ys)=some b):Ob.ok P T D (.run cs (eqS .neq t xs ys) (.bool (!b))):=by
 intro _ w _;simp only [eqS,Sem.run_bind,run_eqGuard_agg w .neq t _ _ xs ys c,Result.andThen_ok,run_neq_struct,Xq _ _ _ _ _ h]
end
theorem ArrM.none_nil (h:ArrM μ sz f none cap l) (b:FrzAt μ w):l=[]:=by
 obtain ⟨_,ad',cap',e,_,_,_,c⟩:=h w b
 cases e
 by_cases d:0<l.length
 ·obtain ⟨a,g,_⟩:=c d
  cases g
 ·exact List.length_eq_zero_iff.1 (by omega)
section
variable {e:Nat}
end
end Go.Eng
namespace Go.Eng
open Go Go.RowKit Go.Proofs Go.Sort Go.Shelf
variable {α β γ κ:Type} {o:Oper} {f:α->List Value} {r:Option Nat} {g k sz cap b n m j N ty bytes scap id xt:Nat} {x y:Int} {c:List (List Value)} {l xs l' l3:List α} {P:Program} {T:World->World->Prop} {D:World->Prop} {w w' w0:World} {cs args:Array Value} {ad sad:Option Addr} {u:α} {a:Act} {μ ν:Frz} {H:List Res} {R:Ending->World->Prop} {ys:List β} {ops:Array Oper} {Q:Exit->Act->World->Prop} {K K':Act->World->Prop} {ds:List Deferred} {M M':List (Nat×Value)} {v:Value} {tt kt:TypeId} {eff rest done:List Nat} {obs:List Ob} {css:List (List α)} {S:α->β->Prop} {fn:Func} {fs:Array Field} {kf:κ->Value} {es:List MapEntry} {ρ:Operand->Value} {news:List Value} {Bv:List (κ×Value)}
section
variable [Inhabited α]
def Sg (cf:α->α->Int) (l:List α):List α:=(pdq (ltOf cf) l.toArray 0 l.length (Lib.bitLen l.length) true true).toList
theorem Ny (cf:α->α->Int) (k:SWO (ltOf cf)) (l:List α):(Sg cf l).length=l.length/\(Sg cf l).Perm l/\(Sg cf l).Pairwise (λx y=>ltOf cf y x=false):=by
 have h:=pdq_sorts (ltOf cf) k l.toArray 0 l.toArray.size (Lib.bitLen l.toArray.size) true true (Nat.zero_le _) (Nat.le_refl _) (Or.inl rfl);have e:l.toArray.size=l.length:=by simp
 rw [e] at h;obtain ⟨⟨h1,_,g⟩,m⟩:=h;unfold Sg;generalize pdq (ltOf cf) l.toArray 0 l.length (Lib.bitLen l.length) true true=d at *;have hd:d.size=l.length:=by simpa using h1
 refine ⟨by simpa using hd,?_,?_⟩
 ·have e1:(d.extract 0 l.length).toList=d.toList:=by rw [←hd];simp
  have e2:(l.toArray.extract 0 l.length).toList=l:=by simp
  rw [e1,e2] at g;exact g
 ·rw [List.pairwise_iff_getElem];intro i j hi hj b;have c:i<d.size:=by simpa using hi
  have f:j<d.size:=by simpa using hj
  have:=m i j (Nat.zero_le _) b (by omega);rw [getElem!_pos d i c,getElem!_pos d j f] at this
  simpa using this
end
section
variable [Inhabited α] {enc:α->List Value} {e:Nat}
theorem Yf (c:∀x,(enc x).length=k) (g:0<k) (d:Array α):(flatK enc k d).toList=d.toList.flatMap enc:=by
 apply List.ext_getElem?;intro j
 by_cases hj:j<d.size*k
 ·have hd:j/k<d.size:=Nat.div_lt_of_lt_mul (by rwa [Nat.mul_comm]);have f:=Nat.mod_lt j g;have e1:(flatK enc k d).toList[j]? = some (flatK enc k d)[j]!:=by
   rw [Array.getElem?_toList,getElem!_pos (flatK enc k d) j (by simpa using hj),Array.getElem?_eq_getElem (by simpa using hj)]
  rw [e1,get_flatK enc k d j hj];have e:j=j/k*k+j%k:=by rw [Nat.mul_comm];exact (Nat.div_add_mod j k).symm
  have i:d.toList[j/k]? = some d[j/k]!:=by
   rw [Array.getElem?_toList,getElem!_pos d (j/k) hd,Array.getElem?_eq_getElem hd]
  conv=>rhs;rw [e]
  rw [R4 c d.toList _ _ _ i f];have b:j%k<(enc d[j/k]!).length:=by rw [c];exact f
  rw [getElem!_pos (enc d[j/k]!) (j%k) b,List.getElem?_eq_getElem b]
 ·rw [List.getElem?_eq_none (by simpa using Nat.le_of_not_lt hj),List.getElem?_eq_none];rw [Ft c]
  simpa using Nat.le_of_not_lt hj
theorem Wi (q:∀x,(enc x).length=k) (r:0<k) (h:(arr e k enc (some ⟨b,0,none⟩) n cap l).holds w):HoldsK enc k w b 0 l.toArray/\b<w.heap.size:=by
 obtain ⟨s,v,h⟩:=h;rcases h with ⟨h,_⟩|⟨g,cap',cur,t,_,d,f,u,i,m⟩
 ·cases h
 ·cases t
  refine ⟨?_,(Array.getElem?_eq_some_iff.1 d).1⟩;intro j hj;simp only [size_flatK,List.size_toArray] at hj;have o:(flatK enc k l.toArray).toList=l.flatMap enc:=Yf q r _;have c:j<n*k:=by rw [←s];exact hj
  have p:j<cur.size:=by rw [i];exact Nat.lt_of_lt_of_le c (Nat.mul_le_mul_right k f)
  have e1:cur[j]? = some (flatK enc k l.toArray)[j]!:=by
   have h1:(cur.toList.take (n*k))[j]? = cur.toList[j]?:=List.getElem?_take_of_lt c;rw [m,←o] at h1;rw [←Array.getElem?_toList,←h1,Array.getElem?_toList,getElem!_pos (flatK enc k l.toArray) j (by simpa using hj),Array.getElem?_eq_getElem (by simpa using hj)]
  rw [Nat.zero_add];constructor
  ·simp [World.cell?,d,e1]
  ·simp [World.frozen?,d]
theorem A1o (q:∀x,(enc x).length=k) (t:0<k) (h:(arr e k enc (some ⟨b,0,none⟩) n cap l).holds w) (d':Array α) (hd:d'.size=n) (m:Nat) (os:Array Obj) :
  (arr e k enc (some ⟨b,0,none⟩) n cap d'.toList).holds (sortWorldK enc k w b 0 m d' os):=by
 obtain ⟨y,z,h⟩:=h;rcases h with ⟨h,_⟩|⟨g,cap',cur,u,i,r,c,o,d,v⟩
 ·cases h
 ·cases u
  refine ⟨by simpa using hd,by rw [Ft q];simp [hd],.inr ⟨b,cap,putCells id 0 (flatK enc k d') cur,rfl,i,?_,c,o,by simp [putCells,d],?_⟩⟩
  ·have p:=(Array.getElem?_eq_some_iff.1 r).1;show ((w.heap.modify b (onCells (putCells id 0 (flatK enc k d'))))++os)[b]? = _;rw [Array.getElem?_append_left (by simpa using p),Array.getElem?_modify,if_pos rfl,r];rfl
  ·rw [←Yf q t];apply List.ext_getElem?;intro j
   by_cases hj:j<n*k
   ·have f:j<cur.size:=by rw [d];exact Nat.lt_of_lt_of_le hj (Nat.mul_le_mul_right k c)
    rw [List.getElem?_take_of_lt hj];have s:j<(flatK enc k d').size:=by simp [hd];exact hj
    simp only [putCells,Array.getElem?_toList,Array.getElem?_mapIdx,Array.getElem?_eq_getElem f,Option.map_some];rw [if_pos ⟨Nat.zero_le _,by omega⟩,Array.getElem?_eq_getElem s,Nat.sub_zero,getElem!_pos (flatK enc k d') j s];rfl
   ·rw [List.getElem?_eq_none (by simp;omega),List.getElem?_eq_none (by simp [hd];omega)]
theorem Tx {i:Nat} (c:∀x,(enc x).length=k) (g:0<k) (f:St w0 H w) (hi:H[i]? = some (arr e k enc (some ⟨b,0,none⟩) n cap l)) (d':Array α) (hd:d'.size=n) (m:Nat) (os:Array Obj) :
  St w0 (H.set i (arr e k enc (some ⟨b,0,none⟩) n cap d'.toList)) (sortWorldK enc k w b 0 m d' os):=by
 have o:=f.holds _ (List.mem_of_getElem? hi);refine f.upd hi rfl rfl rfl ?_ ?_ (A1o c g o d' hd m os) (λk c=>.inl c)
 ·show w.heap.size<=((w.heap.modify b (onCells (putCells id 0 (flatK enc k d'))))++os).size;simp
 ·intro j hj p;have d:b≠j:=λh=>p (by subst h;rfl);show ((w.heap.modify b (onCells (putCells id 0 (flatK enc k d'))))++os)[j]? = _;rw [Array.getElem?_append_left (by simpa using hj),Array.getElem?_modify,if_neg d]
end
def Z8 (α:Type) (n:Nat):Type:={l:List α // l.length=n}
instance {α:Type} {n:Nat} [DecidableEq α]:DecidableEq (Z8 α n):=λa b=>if h:a.1=b.1 then isTrue (Subtype.ext h) else isFalse (λe=>h (by rw [e]))
instance {α:Type} {n:Nat} [Inhabited α]:Inhabited (Z8 α n):=⟨⟨List.replicate n default,List.length_replicate⟩⟩
section
variable (f:α->Value)
end
section
variable {cs:List Cd} {f:α->Value} {x:Z8 α n} {i:Int}
end
section
variable {f:α->Value} {x y:Z8 α n} {j:Int}
end
section
variable {cs:List Cd} {t e:TypeId} {x y:Z8 Bool n}
end
abbrev Hd:=Option Addr×Nat×Nat
variable {hd:List Hd}
section
variable {Rs:List Res}
end
section
variable {e:Nat} {xss:List (List α)} {i:Nat} {h:Hd} {x:List α}
end
def NestOk {α β:Type} (S:α->β->Prop) (hd:List Hd) (css:List (List α)) (L:List (List β)):Prop:=All2 (λ(h:Hd) l=>h.2.1=l.length) hd L/\All2 (All2 S) css L
section
variable {L L3:List (List β)} {i:Int} {u l3:List β}
theorem NestOk.mono {R:Rel β} {css:List (List (List Value))} (c:R.Mono) (b:μ.le ν) (h:NestOk (R μ) hd css L):NestOk (R ν) hd css L :=
 ⟨h.1,h.2.imp λ_ _ h=>All2.mono c b h⟩
end
section
variable {e:Nat} {c:List α} {l l3:List β} {p:Nat}
end
set_option maxRecDepth 10000
section
variable {ν:Type} [DecidableEq κ]
def ixM:List (κ×ν)->κ->Option Nat
 | [],_=>none
 | p::B,x=>if x=p.1 then some 0 else (ixM B x).map (·+1)
def lkM:List (κ×ν)->κ->Option ν
 | [],_=>none
 | p::B,x=>if x=p.1 then some p.2 else lkM B x
def upM:List (κ×ν)->κ->ν->List (κ×ν)
 | [],x,v=>[(x,v)]
 | p::B,x,v=>if x=p.1 then (x,v)::B else p::upM B x v
end
def Y9 {κ ν:Type} (kf:κ->Value) (vf:ν->Value) (es:List MapEntry) (B:List (κ×ν)):Prop:=All2 (λ(e:MapEntry) (p:κ×ν)=>e.key=kf p.1/\e.val=vf p.2) es B
def ixL {κ:Type} [DecidableEq κ]:List κ->κ->Option Nat
 | [],_=>none
 | p::B,x=>if x=p then some 0 else (ixL B x).map (·+1)
structure KeyOk (P:Program) {κ:Type} [DecidableEq κ] (kt:TypeId) (kf:κ->Value):Prop where
 ck:∀em x,pureSem P (Instr.checkKey em 10000 kt (kf x))=some ()
 bits:∀x,Instr.sameBits 10000 (kf x) (kf x)=true
 find:∀(x:κ) (es:List MapEntry) (ks:List κ),es.map (·.key)=ks.map kf->∀w,(Instr.findKey kt (kf x) es).run P w=.ok ((ixL ks x).bind λi=>(es[i]?).map λe=>(i,e.val)) w
structure KeyAsk (P:Program) {κ:Type} [DecidableEq κ] (kt:TypeId) (kf:κ->Value):Prop where
 ck:∀em x,pureSem P (Instr.checkKey em 10000 kt (kf x))=some ()
 bits:∀x,Instr.sameBits 10000 (kf x) (kf x)=true
 eq:∀x y w,(Op.equal kt (kf x) (kf y)).run P w=.ok (decide (x=y)) w
 now:∀x y,(pureSem P (underlying kt)).bind (λd=>Instr.sameNow d (kf x) (kf y))=none
 und:(pureSem P (underlying kt)).isSome=true
structure KeyNow (P:Program) {κ:Type} [DecidableEq κ] (kt:TypeId) (kf:κ->Value):Prop where
 ck:∀em x,pureSem P (Instr.checkKey em 10000 kt (kf x))=some ()
 bits:∀x,Instr.sameBits 10000 (kf x) (kf x)=true
 now:∀x y,(pureSem P (underlying kt)).bind (λd=>Instr.sameNow d (kf x) (kf y))=some (decide (x=y))
 und:(pureSem P (underlying kt)).isSome=true
section
variable {ν:Type} [DecidableEq κ] {vf:ν->Value}
theorem A66 (d:KeyAsk P kt kf) (x:κ) (w:World):∀{es:List MapEntry} {ks:List κ} (i:Nat),es.map (·.key)=ks.map kf->(Instr.findAsking kt (kf x) es i).run P w=.ok ((ixL ks x).bind λj=>(es[j]?).map λe=>(j+i,e.val)) w:=by
 intro es
 induction es with
 | nil =>
  intro ks i h
  cases ks with
  | nil=>rfl
  | cons _ _=>cases h
 | cons e es ih =>
  intro ks i h
  cases ks with
  | nil=>cases h
  | cons p ks =>
   simp only [List.map_cons,List.cons.injEq] at h;have c:=d.eq x p w;rw [←h.1] at c;unfold Instr.findAsking;simp only [Sem.run_bind,c,Result.andThen_ok];unfold ixL
   by_cases b:x=p
   ·rw [decide_eq_true b,if_pos b];simp
   ·rw [decide_eq_false b,if_neg b];have:=ih (i+1) h.2;simp only [Bool.false_eq_true,if_false];rw [this]
    cases ixL ks x with
    | none=>rfl
    | some j=>simp [Nat.add_assoc,Nat.add_comm 1 i]
theorem A3z {d:TypeDesc} (f:∀x y:κ,Instr.sameNow d (kf x) (kf y)=some (decide (x=y))) (x:κ):∀{es:List MapEntry} {ks:List κ} (i:Nat),es.map (·.key)=ks.map kf->Instr.findNow d (kf x) es i=some ((ixL ks x).bind λj=>(es[j]?).map λe=>(j+i,e.val)):=by
 intro es
 induction es with
 | nil =>
  intro ks i h
  cases ks with
  | nil=>rfl
  | cons _ _=>cases h
 | cons e es ih =>
  intro ks i h
  cases ks with
  | nil=>cases h
  | cons p ks =>
   simp only [List.map_cons,List.cons.injEq] at h;have c:=f x p;rw [←h.1] at c;unfold Instr.findNow;rw [c];unfold ixL
   by_cases b:x=p
   ·rw [decide_eq_true b,if_pos b];simp
   ·rw [decide_eq_false b,if_neg b];have:=ih (i+1) h.2;simp only [];rw [this]
    cases ixL ks x with
    | none=>rfl
    | some j=>simp [Nat.add_assoc,Nat.add_comm 1 i]
theorem KeyAsk.ok (b:KeyAsk P kt kf):KeyOk P kt kf:=by
 refine ⟨b.ck,b.bits,λx es ks h=>?_⟩;intro w;unfold Instr.findKey;obtain ⟨d,hd⟩:=Option.isSome_iff_exists.1 b.und;have c:=Bd _ _ hd w;simp only [Sem.run_bind,c,Result.andThen_ok]
 cases es with
 | nil =>
  cases ks with
  | nil=>rfl
  | cons _ _=>cases h
 | cons e es =>
  cases ks with
  | nil=>cases h
  | cons p ks =>
   have f:=b.now x p;have h1:e.key=kf p:=by simp only [List.map_cons,List.cons.injEq] at h;exact h.1
   rw [hd,Option.bind_some,←h1] at f;have:Instr.findNow d (kf x) (e::es) 0=none:=by
    unfold Instr.findNow;rw [f]
   rw [this];exact A66 b x w 0 h
theorem KeyNow.ok (b:KeyNow P kt kf):KeyOk P kt kf:=by
 refine ⟨b.ck,b.bits,λx es ks h=>?_⟩;intro w;unfold Instr.findKey;obtain ⟨d,hd⟩:=Option.isSome_iff_exists.1 b.und;have c:=Bd _ _ hd w;simp only [Sem.run_bind,c,Result.andThen_ok];have:=A3z (kf:=kf) (d:=d) (λx y=>by have:=b.now x y;rw [hd] at this;exact this) x 0 h;rw [this];rfl
theorem A8b {B:List (κ×ν)} (h:Y9 kf vf es B):es.map (·.key)=(B.map (·.1)).map kf:=by
 induction h with
 | nil=>rfl
 | cons h _ ih=>simp only [List.map_cons,ih,h.1]
theorem B0u (B:List (κ×ν)) (x:κ):ixL (B.map (·.1)) x=ixM B x:=by
 induction B with
 | nil=>rfl
 | cons p B ih=>simp only [List.map_cons,ixL,ixM,ih]
theorem A5o {B:List (κ×ν)} {x:κ}:lkM B x=(ixM B x).bind λi=>(B[i]?).map (·.2):=by
 induction B with
 | nil=>rfl
 | cons p B ih =>
  unfold lkM ixM
  by_cases b:x=p.1
  ·simp [b]
  ·rw [if_neg b,if_neg b,ih]
   cases ixM B x<;>simp
theorem Xp {B:List (κ×ν)} (h:Y9 kf vf es B) {i:Nat} {p:κ×ν} (b:B[i]? = some p):∃e,es[i]? = some e/\e.key=kf p.1/\e.val=vf p.2:=by
 induction h generalizing i with
 | nil=>simp at b
 | cons h _ ih =>
  cases i with
  | zero=>simp at b;subst b;exact ⟨_,rfl,h⟩
  | succ i=>obtain ⟨e,h1,c⟩:=ih (by simpa using b);exact ⟨e,by simpa using h1,c⟩
theorem Xr (f:KeyOk P kt kf) (x:κ) {B:List (κ×ν)} (h:Y9 kf vf es B):∃r,(∀w,(Instr.findKey kt (kf x) es).run P w=.ok r w)/\r.map (·.1)=ixM B x/\(∀p,r=some p->∃v,lkM B x=some v/\p.2=vf v)/\(r=none->lkM B x=none):=by
 have h1:=f.find x es _ (A8b h);rw [B0u] at h1;refine ⟨_,h1,?_⟩;rw [A5o]
 cases hi:ixM B x with
 | none=>simp
 | some i =>
  have c:∃p,B[i]? = some p:=by
   clear h1 h
   induction B generalizing i with
   | nil=>cases hi
   | cons q B ih =>
    unfold ixM at hi
    by_cases d:x=q.1
    ·rw [if_pos d] at hi;cases hi;exact ⟨q,rfl⟩
    ·rw [if_neg d] at hi;obtain ⟨j,hj,rfl⟩:=Option.map_eq_some_iff.1 hi;obtain ⟨p,b⟩:=ih j hj;exact ⟨p,by simpa using b⟩
  obtain ⟨p,b⟩:=c;obtain ⟨e,e1,e2,e3⟩:=Xp h b;simp only [Option.bind_some,e1,b,Option.map_some];exact ⟨trivial,λq g=>by cases g;exact ⟨p.2,rfl,e3⟩,λh=>by cases h⟩
theorem A5p {B:List (κ×ν)} {x:κ} {i:Nat} (h:ixM B x=some i):i<B.length/\∃p,B[i]? = some p/\p.1=x/\lkM B x=some p.2:=by
 induction B generalizing i with
 | nil=>cases h
 | cons p B ih =>
  unfold ixM at h
  by_cases b:x=p.1
  ·rw [if_pos b] at h
   cases h
   exact ⟨by simp,p,rfl,b.symm,by unfold lkM;rw [if_pos b]⟩
  ·rw [if_neg b] at h;obtain ⟨j,hj,rfl⟩:=Option.map_eq_some_iff.1 h;obtain ⟨h1,q,c,d,e⟩:=ih hj;exact ⟨by simp;omega,q,by simpa using c,d,by unfold lkM;rw [if_neg b];exact e⟩
theorem B21 {B:List (κ×ν)} {x:κ} {i:Nat} {v:ν} (h:ixM B x=some i):upM B x v=B.set i (x,v):=by
 induction B generalizing i with
 | nil=>cases h
 | cons p B ih =>
  unfold ixM at h;unfold upM
  by_cases b:x=p.1
  ·rw [if_pos b] at h ⊢
   cases h;rfl
  ·rw [if_neg b] at h ⊢;obtain ⟨j,hj,rfl⟩:=Option.map_eq_some_iff.1 h;rw [ih hj];rfl
theorem B1z {B:List (κ×ν)} {x:κ} {v:ν} (h:ixM B x=none):upM B x v=B++[(x,v)]:=by
 induction B with
 | nil=>rfl
 | cons p B ih =>
  unfold ixM at h;unfold upM
  by_cases b:x=p.1
  ·rw [if_pos b] at h;cases h
  ·rw [if_neg b] at h ⊢;rw [ih (Option.map_eq_none_iff.1 h)];rfl
end
def A0 {κ ν:Type} (kf:κ->Value) (vf:ν->Value) (m:Nat) (B:List (κ×ν)):Res where
 foot:=λk=>k=m
 holds:=λw=>∃(es:List MapEntry) (clock:Nat),w.heap[m]? = some (.map es.toArray clock)/\Y9 kf vf es B/\(∀e∈es,e.born<clock)/\es.Pairwise (λa b=>a.born≠b.born)
 loc:=λw w' h hb=>by
  obtain ⟨es,clock,h1,h2⟩:=hb;exact ⟨es,clock,(h m rfl).trans h1,h2⟩
 lt:=λw k hb hk=>by
  subst hk;obtain ⟨es,clock,h1,_⟩:=hb;exact (Array.getElem?_eq_some_iff.1 h1).1
def effSemM (ρ:Operand->Value) (op:Op) (ty:TypeId):Option (Sem Value) :=
 match op with
 | .makeMap t r=>some (Instr.makeMap t (r.map ρ))
 | .lookup t x ix ok=>some (Instr.lookup t (ρ x) (ρ ix) ok)
 | .mapEntry t m k=>some (Instr.mapEntry t (ρ m) (ρ k))
 | .call { callee:=.builtin .delete,args,argTypes }=>some (Builtin.delete_ argTypes ty (args.map ρ))
 | _=>none
theorem A26 {s:Sem Value} (h:effSemM ρ o.op o.type=some s) (c:s.run P w=.ok v w'):(execOp ρ o).run P w=.ok (.value v) w':=by
 unfold effSemM at h;unfold execOp
 split at h<;>rename_i b<;>simp only [Option.some.injEq,reduceCtorEq] at h<;>(try subst h)<;>rw [b]<;>simp [c,resolve,invoke,builtin]
def uniSemM (ρ:Operand->Value) (op:Op):Option (Sem Unit) :=
 match op with
 | .mapUpdate t m k x=>some (Instr.mapUpdate t (ρ m) (ρ k) (ρ x))
 | .entryStore t m s x=>some (Instr.entryStore t (ρ m) (ρ s) (ρ x))
 | _=>none
theorem A3k {s:Sem Unit} (h:uniSemM ρ o.op=some s) (c:s.run P w=.ok () w'):(execOp ρ o).run P w=.ok .skip w':=by
 unfold uniSemM at h;unfold execOp
 split at h<;>rename_i b<;>simp only [Option.some.injEq,reduceCtorEq] at h<;>(try subst h)<;>rw [b]<;>simp [c]
structure EffM (ops:Array Oper) (k:Nat) (M:List (Nat×Value)) (s:Sem Value):Prop where
 eq:((plainAt ops k M).bind λo=>effSemM (rhoE (ofM M)) o.op o.type)=some s
structure UniM (ops:Array Oper) (k:Nat) (M:List (Nat×Value)) (s:Sem Unit):Prop where
 eq:((plainAt ops k M).bind λo=>uniSemM (rhoE (ofM M)) o.op)=some s
section
theorem A5a {s:Sem Value} (c:Fr N ds M a) (b:As ops N=true) (hs:EffM ops k M s) (d:s.run P w=.ok v w')
  (e:NextM ops k M v M') (next:∀a',Fr N ds M' a'->K a' w'):SK P r ops k K a w:=by
 have hs:=hs.eq
 cases ho:plainAt ops k M with
 | none=>rw [ho] at hs;simp at hs
 | some o =>
  rw [ho] at hs;exact A4j c b ho (A26 hs d) e next
theorem B6x {s:Sem Unit} (c:Fr N ds M a) (b:As ops N=true) (hs:UniM ops k M s) (d:s.run P w=.ok () w')
  (e:NextM ops k M undef M') (next:∀a',Fr N ds M' a'->K a' w'):SK P r ops k K a w:=by
 have hs:=hs.eq
 cases ho:plainAt ops k M with
 | none=>rw [ho] at hs;simp at hs
 | some o =>
  rw [ho] at hs;exact B2t c b ho (A3k hs d) e next
variable {ν:Type} [DecidableEq κ] {e t:TypeId} {vf:ν->Value} {B:List (κ×ν)} {x:κ} {v d:ν}
def Ub (P:Program) (t kt e:TypeId):Bool:=match P.underlying t with
 | some (.map a b)=>Nat.beq a kt&&Nat.beq b e
 | _=>false
theorem Kl (h:Ub P t kt e=true):P.underlying t=some (.map kt e):=by
 unfold Ub at h
 split at h
 ·rename_i a b c
  rw [Bool.and_eq_true] at h;rw [c,Nat.eq_of_beq_eq_true h.1,Nat.eq_of_beq_eq_true h.2]
 ·cases h
theorem T2 (κ ν:Type) (kf:κ->Value) (vf:ν->Value) (M':Nat->List (Nat×Value)) (f:Fr N ds M a) (g:St w0 H w) (c:As ops N=true) (hs:EffM ops k M (Instr.makeMap t none)) (i:∀m,NextM ops k M (.map (some m)) (M' m))
  (next:∀m w' a',Fr N ds (M' m) a'->St w0 (A0 kf vf m ([]:List (κ×ν))::H) w'->K a' w'):SK P r ops k K a w:=by
 refine A5a f c hs (v:=.map (some w.heap.size)) (w':=w.alloc (.map #[] 0)) ?_ (i _) ?_
 ·have j:(newObj (.map #[] 0)).run P w=.ok w.heap.size (w.alloc (.map #[] 0)):=rfl;simp [Instr.makeMap,j]
 ·intro a' d;refine next _ _ a' d (g.push (Tn w _) ⟨[],0,World.alloc_heap_new w _,.nil,λe he=>by simp at he,.nil⟩ (λb hb=>by rw [show b=w.heap.size from hb];exact Nat.le_refl _))
theorem S1 (M':List (Nat×Value)) (i:Nat) (x:κ) (d:ν) (f:KeyOk P kt kf) (s:Fr N ds M a) (y:St w0 H w) (hi:H[i]? = some (A0 kf vf m B)) (c:As ops N=true) (hs:EffM ops k M (Instr.lookup t (.map (some m)) (kf x) false)) (g:Ub P t kt e=true)
  (hz:(P.info? e).bind (·.zero)=some (vf d)) (z:NextM ops k M (vf ((lkM B x).getD d)) M') (next:∀a',Fr N ds M' a'->K a' w):SK P r ops k K a w:=by
 obtain ⟨es,clock,h1,h2,h3⟩:=y.res hi;refine A5a s c hs ?_ z next
 obtain ⟨q,q1,q2,q3,q4⟩:=Xr f x h2;have l:=q1 w;have n:=Bd _ _ (f.ck es.isEmpty x) w;have o:=MapKept.run_getObj_map (P:=P) h1
 cases q with
 | some p =>
  obtain ⟨v,e1,e2⟩:=q3 p rfl;obtain ⟨j,u⟩:=p;have e2:u=vf v:=e2;subst e2;rw [e1];simp [Instr.lookup,run_underlying (Kl g),o,n,l]
 | none =>
  have e1:=q4 rfl
  cases b:P.info? e with
  | none=>rw [b] at hz;simp at hz
  | some inf =>
   rw [b] at hz;simp at hz;simp [Instr.lookup,run_underlying (Kl g),o,n,l,e1,zeroValue,typeInfo,b,hz]
end
section
variable {Rs Rs':List Res} {i:Nat} {R:Res}
end
section
variable {eo e q:Nat} {hd':List Hd} {css':List (List α)} {h:Hd} {c:List α}
end
section
variable {eo e:Nat} {c:List α} {l l3:List β} {hd2:List Hd} {css2:List (List α)} {L L3:List (List β)}
end
section
variable {ν:Type} [DecidableEq κ] {vf:ν->Value} {B:List (κ×ν)} {x:κ} {v:ν} {clock:Nat}
def Stp (es:List MapEntry) (clock:Nat):Prop:=(∀e∈es,e.born<clock)/\es.Pairwise (λa b=>a.born≠b.born)
theorem B0o (h:Y9 kf vf es B) (i:Nat) (u:ν) (b:∀p,B[i]? = some p->p.1=x):Y9 kf vf (es.modify i λe=>{ e with key:=kf x,val:=vf v }) (B.modify i λ_=>(x,v)):=by
 induction h generalizing i with
 | nil=>simp;exact .nil
 | cons h c ih =>
  cases i with
  | zero=>simp only [List.modify_zero_cons];exact .cons ⟨rfl,rfl⟩ c
  | succ i=>simp only [List.modify_succ_cons];exact .cons h (ih i λp d=>b p (by simpa using d))
theorem A4b {i:Nat} {y:α}:l.modify i (λ_=>y)=l.set i y:=by
 induction l generalizing i with
 | nil=>simp
 | cons a l ih=>cases i<;>simp [ih]
theorem B1r (h:Stp es clock) (i:Nat) (f:MapEntry->MapEntry) (c:∀e,(f e).born=e.born):Stp (es.modify i f) clock:=by
 have hb:(es.modify i f).map (·.born)=es.map (·.born):=by
  clear h
  induction es generalizing i with
  | nil=>simp
  | cons e es ih=>cases i with
   | zero=>simp [c]
   | succ i=>simp [ih]
 obtain ⟨h1,d⟩:=h;have e1:∀(l:List MapEntry),(∀e∈l,e.born<clock)↔∀b∈l.map (·.born),b<clock:=λl=>by simp
 have e2:∀(l:List MapEntry),l.Pairwise (λa b=>a.born≠b.born)↔(l.map (·.born)).Pairwise (·≠·):=λl=>by rw [List.pairwise_map]
 refine ⟨?_,?_⟩
 ·rw [e1,hb,←e1];exact h1
 ·rw [e2,hb,←e2];exact d
theorem A9x (h:Stp es clock) (k w:Value):Stp (es++[{ key:=k,val:=w,born:=clock }]) (clock+1):=by
 refine ⟨λe he=>?_,?_⟩
 ·rcases List.mem_append.1 he with he|he
  ·have:=h.1 e he;omega
  ·simp at he;subst he;exact Nat.lt_succ_self _
 ·refine List.pairwise_append.2 ⟨h.2,List.pairwise_singleton _ _,λa c b hb=>?_⟩;simp at hb;subst hb;have:=h.1 a c;simp only;omega
theorem B0n (h:Y9 kf vf es B) {e:MapEntry} {p:κ×ν} (h1:e.key=kf p.1) (b:e.val=vf p.2):Y9 kf vf (es++[e]) (B++[p]):=All2.app h (.cons ⟨h1,b⟩ .nil)
theorem A3n {R:α->β->Prop} (h:All2 R xs ys):∀i,All2 R (xs.eraseIdx i) (ys.eraseIdx i):=by
 induction h with
 | nil=>intro i;simp;exact .nil
 | cons h b ih=>intro i;cases i with
  | zero=>exact b
  | succ i=>exact .cons h (ih i)
theorem B0v {B:List (κ×ν)} {i:Nat} (h:ixM B x=some i):∀p,B[i]? = some p->p.1=x:=by
 obtain ⟨_,p,h1,c,_⟩:=A5p h;intro q b;rw [h1] at b;cases b;exact c
variable {t e:TypeId}
theorem B6v (hb:∀x,Instr.sameBits 10000 (kf x) (kf x)=true) (w:World):(Instr.keyThatStays (kf x) (kf x)).run P w=.ok (kf x) w:=by
 simp [Instr.keyThatStays,hb x]
theorem B4l (o:Obj) (hb:w.heap[m]? = some (.map es.toArray clock)):(setObj m o).run P w=.ok () (w.putObj m o):=MapKept.run_setObj_map o hb
theorem B22 (c:KeyOk P kt kf) (g:Ub P t kt e=true) (hb:w.heap[m]? = some (.map es.toArray clock)) (h:Y9 kf vf es B) (hs:Stp es clock) (x:κ) (v:ν) :
  ∃es' clock',(Instr.mapUpdate t (.map (some m)) (kf x) (vf v)).run P w=.ok () (w.putObj m (.map es'.toArray clock'))/\Y9 kf vf es' (upM B x v)/\Stp es' clock':=by
 obtain ⟨q,q1,q2,q3,q4⟩:=Xr c x h;have i:=q1 w;have k:=Bd _ _ (c.ck false x) w;have l:=MapKept.run_getObj_map (P:=P) hb
 cases q with
 | some p =>
  obtain ⟨j,u⟩:=p;have hj:ixM B x=some j:=q2.symm;obtain ⟨n,p,o,d,r⟩:=A5p hj;obtain ⟨en,e1,e2,e3⟩:=Xp h o;rw [d] at e2;have f:=B6v (P:=P) (x:=x) c.bits w;refine ⟨es.modify j λe=>{ e with key:=kf x,val:=vf v },clock,?_,?_,B1r hs j _ λ_=>rfl⟩
  ·have b:=B4l (P:=P) (.map (es.modify j λe=>{ e with key:=kf x,val:=vf v }).toArray clock) hb;simp [Instr.mapUpdate,run_underlying (Kl g),l,k,i,e1,e2,f,b]
  ·rw [B21 hj,←A4b];exact B0o h j v (B0v hj)
 | none =>
  have hj:ixM B x=none:=q2.symm;refine ⟨es++[{ key:=kf x,val:=vf v,born:=clock }],clock+1,?_,?_,A9x hs _ _⟩
  ·have b:=B4l (P:=P) (.map (es++[({ key:=kf x,val:=vf v,born:=clock }:MapEntry)]).toArray (clock+1)) hb;simp [Instr.mapUpdate,run_underlying (Kl g),l,k,i,b]
  ·rw [B1z hj];exact B0n h rfl rfl
end
section
variable {ν:Type} [DecidableEq κ] {e t:TypeId} {vf:ν->Value} {B:List (κ×ν)} {x:κ} {v d:ν}
theorem St.putMap {R R':Res} {i:Nat} {o o':Obj} (g:St w0 H w) (hi:H[i]? = some R) (ho:w.heap[m]? = some o) (f:∀k,R.foot k↔k=m) (b:R'.holds (w.putObj m o')) (c:∀k,R'.foot k->k=m):St w0 (H.set i R') (w.putObj m o'):=by
 refine g.upd hi rfl rfl rfl (by simp [World.putObj]) (λk _ d=>World.putObj_heap_other (λe=>d ((f k).2 e))) b (λk d=>.inl ((f k).2 (c k d)))
theorem B04 (M':List (Nat×Value)) (i:Nat) (x:κ) (v:ν) (f:KeyOk P kt kf) (g:Fr N ds M a) (d:St w0 H w) (hi:H[i]? = some (A0 kf vf m B)) (b:As ops N=true) (hs:UniM ops k M (Instr.mapUpdate t (.map (some m)) (kf x) (vf v))) (j:Ub P t kt e=true)
  (l:NextM ops k M undef M') (next:∀w' a',Fr N ds M' a'->St w0 (H.set i (A0 kf vf m (upM B x v))) w'->K a' w'):SK P r ops k K a w:=by
 obtain ⟨es,clock,h1,n,o⟩:=d.res hi;obtain ⟨es',clock',g1,g2,g3⟩:=B22 (w:=w) f j h1 n o x v;refine B6x g b hs g1 l λa' c=>next _ a' c (d.putMap hi h1 (λ_=>Iff.rfl) ?_ λ_ h=>h)
 exact ⟨es',clock',World.putObj_heap_same (Array.getElem?_eq_some_iff.1 h1).1,g2,g3⟩
end
def MNestOk {κ α β:Type} (S:α->β->Prop) (B:List (κ×Hd)) (css:List (List α)) (L:List (κ×List β)):Prop:=All2 (λ(h:κ×Hd) (p:κ×List β)=>h.1=p.1/\h.2.2.1=p.2.length) B L/\All2 (λc (p:κ×List β)=>All2 S c p.2) css L
section
variable [DecidableEq κ] {B:List (κ×Hd)} {L:List (κ×List β)} {x:κ} {i:Nat}
theorem MNestOk.mono {R:Rel β} {css:List (List (List Value))} (c:R.Mono) (b:μ.le ν) (h:MNestOk (R μ) B css L):MNestOk (R ν) B css L:=⟨h.1,h.2.imp λ_ _ h=>All2.mono c b h⟩
theorem MNestOk.ix (h:MNestOk S B css L) (x:κ):ixM B x=ixM L x:=by
 have h1:=h.1
 clear h
 induction h1 with
 | nil=>rfl
 | cons h _ ih=>simp only [ixM,h.1,ih]
theorem A1u {δ:Type} {R:γ->δ->Prop} {xs:List γ} {ys:List δ} (h:All2 R xs ys) {i:Nat} {y:δ} (b:ys[i]? = some y):∃x,xs[i]? = some x/\R x y:=by
 induction h generalizing i with
 | nil=>simp at b
 | cons h _ ih=>cases i with
  | zero=>simp at b;subst b;exact ⟨_,rfl,h⟩
  | succ i=>obtain ⟨x,h1,c⟩:=ih (by simpa using b);exact ⟨x,by simpa using h1,c⟩
theorem MNestOk.at (h:MNestOk S B css L) (x:κ):(∃(i:Nat) (ad:Option Addr) (cap:Nat) (c:List α) (l:List β),ixM B x=some i/\B[i]? = some (x,(ad,l.length,cap))/\lkM B x=some (ad,l.length,cap)/\css[i]? = some c/\L[i]? = some (x,l)/\lkM L x=some l/\All2 S c l)\/(ixM B x=none/\ixM L x=none/\lkM B x=none/\lkM L x=none):=by
 have b:=h.ix x
 cases hi:ixM L x with
 | none =>
  rw [hi] at b;exact .inr ⟨b,rfl,by rw [A5o,b];rfl,by rw [A5o,hi];rfl⟩
 | some i =>
  rw [hi] at b;obtain ⟨g,p,e,d,f⟩:=A5p hi;obtain ⟨q,q1,q2,q3⟩:=A1u h.1 e;obtain ⟨c,c1,c2⟩:=A1u h.2 e;obtain ⟨k,l⟩:=p;obtain ⟨k',ad,n,cap⟩:=q;simp only at d q2 q3 c2;subst d q2 q3;exact .inl ⟨i,ad,cap,c,l,b,q1,by rw [A5o,b];simp [q1],c1,e,f,c2⟩
end
section
variable [DecidableEq κ] {e i:Nat} {B:List (κ×Hd)} {h:κ×Hd} {c:List α}
end
section
variable [DecidableEq κ] {kt te t e:Nat} {B:List (κ×Hd)} {L:List (κ×List β)} {x:κ}
end
theorem A5k (w:World) (o:Obj) (j:Nat) (h:j<w.heap.size):(w.alloc o).heap[j]? = w.heap[j]?:=by
 show (w.heap.push o)[j]? = _;rw [Array.getElem?_push,if_neg (Nat.ne_of_lt h)]
def arrT {α:Type} (e sz:Nat) (f:α->List Value) (ad:Option Addr) (n cap:Nat) (l:List α):Res where
 foot:=λk=>∃off,ad=some ⟨k,off,none⟩
 holds:=λw=>l.length=n/\(l.flatMap f).length=n*sz/\((ad=none/\n=0/\cap=0)\/∃g off cur fz,ad=some ⟨g,off,none⟩/\w.heap[g]? = some (.cells cur e fz)/\(fz=(0,0)\/cur.size<=fz.1)/\n<=cap/\cap<=maxLen/\off+cap*sz<=cur.size/\(cur.toList.drop off).take (n*sz)=l.flatMap f)
 loc:=λw w' h hb=>by
  refine ⟨hb.1,hb.2.1,?_⟩;rcases hb.2.2 with hn|⟨g,off,cur,fz,rfl,hg,rest⟩
  ·exact .inl hn
  ·exact .inr ⟨g,off,cur,fz,rfl,(h g ⟨off,rfl⟩).trans hg,rest⟩
 lt:=λw k hb hk=>by
  obtain ⟨off,rfl⟩:=hk;rcases hb.2.2 with ⟨hn,_⟩|⟨g,off',cur,fz,he,hg,_⟩
  ·cases hn
  ·cases he;exact (Array.getElem?_eq_some_iff.1 hg).1
section
variable {e i:Nat} {l2:List α} {lo hi:Int}
theorem St.conv1 {R R':Res} (h:St w0 (R::H) w) (e:R'.holds w) (d:∀b,R'.foot b->R.foot b):St w0 (R'::H) w:=by
 refine ⟨h.ext,λS c=>?_,λS c b hb=>?_,?_⟩
 ·rcases List.mem_cons.1 c with rfl|c
  ·exact e
  ·exact h.holds S (List.mem_cons_of_mem _ c)
 ·rcases List.mem_cons.1 c with rfl|c
  ·exact h.low R (List.mem_cons_self ..) b (d b hb)
  ·exact h.low S (List.mem_cons_of_mem _ c) b hb
 ·have:=List.pairwise_cons.1 h.apart;exact List.pairwise_cons.2 ⟨λS c b h1 f=>this.1 S c b (d b h1) f,this.2⟩
theorem St.nilT (h:St w0 H w) (e sz:Nat) (f:α->List Value):St w0 (arrT e sz f none 0 0 ([]:List α)::H) w :=
 h.push (Ext.refl w) ⟨rfl,by simp,.inl ⟨rfl,rfl,rfl⟩⟩ (λb hb=>by obtain ⟨_,h⟩:=hb;cases h)
theorem St.toT (h:St w0 (Go.Eng.arr e sz f ad n cap l::H) w):St w0 (arrT e sz f ad n cap l::H) w:=by
 have hb:=h.holds _ (List.mem_cons_self ..);refine h.conv1 ⟨hb.1,hb.2.1,?_⟩ ?_
 ·rcases hb.2.2 with ⟨h1,k⟩|⟨g,cap',cur,h1,_,m,d,i,j,c⟩
  ·cases h1;exact .inl ⟨rfl,k,rfl⟩
  ·cases h1
   refine .inr ⟨g,0,cur,_,rfl,m,.inl rfl,d,i,by rw [j];omega,?_⟩;rw [List.drop_zero];exact c
 ·rintro b ⟨off,rfl⟩;rcases hb.2.2 with ⟨h1,_⟩|⟨g,cap',cur,h1,_⟩
  ·cases h1
  ·cases h1;rfl
theorem A53 (h:(arrT e sz f ad n cap l).holds w):Arr w sz f ad n cap l:=by
 obtain ⟨h1,o,p⟩:=h;refine ⟨h1,ad,cap,rfl,o,?_⟩;rcases p with ⟨rfl,rfl,rfl⟩|⟨g,off,cur,fz,rfl,m,q,i,k,r,b⟩
 ·exact ⟨Nat.le_refl _,by simp [maxLen],λh=>by omega⟩
 ·refine ⟨i,k,λ_=>⟨_,rfl,(Array.getElem?_eq_some_iff.1 m).1,λj u c=>?_⟩⟩;have d:(⟨g,off,none⟩:Addr).add j=⟨g,off+j,none⟩:=by unfold Addr.add;split<;>simp_all
  rw [d];rw [←b,List.getElem?_take] at c
  split at c
  ·rw [List.getElem?_drop] at c;simp only [World.cell?,m]
   simpa using c
  ·cases c
theorem St.arrT_ {i:Nat} (h:St w0 H w) (hi:H[i]? = some (Go.Eng.arrT e sz f ad n cap l)):Arr w sz f ad n cap l:=A53 (h.holds _ (List.mem_of_getElem? hi))
end
section
variable {e:Nat}
theorem Z2 (g o:Nat) (t:TypeId) (fz:Nat×Nat):∀(vs:List Value) (i:Nat) (cur:Array Value) (w:World),w.heap[g]? = some (.cells cur t fz)->(fz=(0,0)\/cur.size<=fz.1)->o+i+vs.length<=cur.size->(∀v∈vs,v.oneCell'=true) ->
  (storeCells ⟨g,o,none⟩ vs i).run P w=.ok () (w.setRow g (cur.toList.take (o+i)++vs++cur.toList.drop (o+i+vs.length)).toArray)
 | [],i,cur,w,c,_,_,_=>by
  simp only [storeCells,List.append_nil,List.length_nil,Nat.add_zero,List.take_append_drop,Array.toArray_toList];rw [setRow_self w g cur t fz c];rfl
 | v::rest,i,cur,w,c,d,k,h1=>by
  have hi:o+i<cur.size:=by simp at k;omega
  have f:(⟨g,o,none⟩:Addr).add i=⟨g,o+i,none⟩:=by unfold Addr.add;split<;>simp_all
  have b:w.cell? ⟨g,o+i,none⟩=some cur[o+i]:=by simp [World.cell?,c,hi]
  have j:w.frozen? ⟨g,o+i,none⟩=false:=by
   obtain ⟨x,y⟩:=fz;simp only [World.frozen?,c];rcases d with h|h
   ·cases h;simp
   ·simp only [Bool.and_eq_false_iff,decide_eq_false_iff_not];left;simp only at h;omega
  have l:(store ((⟨g,o,none⟩:Addr).add i) v).run P w=.ok () (w.setRow g (cur.setIfInBounds (o+i) v)):=by
   rw [f,run_store P w _ v _ (h1 v (by simp)),b];simp [j,setCell_eq_setRow w g (o+i) cur t fz v c]
  have ih:=Z2 g o t fz rest (i+1) (cur.setIfInBounds (o+i) v) (w.setRow g (cur.setIfInBounds (o+i) v)) (setRow_heap w g cur _ t _ c) (by simpa using d) (by simp at k ⊢;omega) (λx m=>h1 x (by simp [m]));simp only [storeCells,Sem.run_bind,l,Result.andThen_ok,ih,setRow_setRow]
  congr 3
  have e:=list_seg_step cur.toList (o+i) v rest (by simp at k ⊢;omega)
  simpa [Array.toList_setIfInBounds,Nat.add_assoc] using e
structure Src (P:Program) (w:World) (xt:TypeId) (sz:Nat) (x:Value) (n:Nat) (news:List Value):Prop where
 ty:∃u,P.underlying xt=some u/\((∃e,u=.slice e)\/u=.string)
 len:Builtin.lenOf x=pure n
 cells:∀w':World,(∀j,j<w.heap.size->w'.heap[j]? = w.heap[j]?)->(Builtin.firstCells sz n x).run P w'=.ok news.toArray w'
 size:news.length=n*sz
theorem Src.drew {x:Value} (h:Src P w xt sz x n news):(Builtin.firstCells sz n x).run P w.drew=.ok news.toArray w.drew:=h.cells w.drew (λ_ _=>rfl)
theorem Src.slice {u:Nat} (e:P.underlying xt=some (.slice u)) (hs:Arr w sz f ad n cap l):Src P w xt sz (.slice ad n cap) n (l.flatMap f):=by
 obtain ⟨_,ad',cap',he,c,_,_,b⟩:=hs
 cases he
 refine ⟨⟨_,e,.inl ⟨_,rfl⟩⟩,rfl,λw' g=>?_,c⟩
 by_cases i:n=0
 ·subst i;have:l.flatMap f=[]:=List.eq_nil_of_length_eq_zero (by rw [c];simp);rw [this]
  cases ad<;>simp [Builtin.firstCells,loadCells,loadCellsFrom]
 ·obtain ⟨a,rfl,hb,k⟩:=b (by omega);refine run_firstCells_some (P:=P) w' sz n a n cap (l.flatMap f) c (λj u m=>?_);have h:=k j u m;have d:(a.add j).block<w.heap.size:=by rw [Rk];exact hb
  unfold World.cell? at h ⊢;rw [g _ d];exact h
def sby (s:ByteArray):List Int:=s.data.toList.map λb=>(b.toNat:Int)
theorem Qp (s:ByteArray):(sby s).length=s.size:=by unfold sby;rw [List.length_map];rfl
theorem A5g (g:β->Value) (l:List β):l.flatMap (λx=>[g x])=l.map g:=by induction l with|nil=>rfl|cons x l ih=>simp [List.flatMap_cons,ih]
theorem Src.string (s:ByteArray) (c:P.underlying xt=some .string):Src P w xt 1 (.string s) s.size ((sby s).flatMap (fK .u8)):=by
 have e:(sby s).flatMap (fK .u8)=s.data.toList.map (λb=>Value.int .u8 b.toNat):=by
  show (sby s).flatMap (λx=>[Value.int .u8 x])=_;rw [A5g];unfold sby;rw [List.map_map];rfl
 refine ⟨⟨_,c,.inr rfl⟩,rfl,λw' _=>?_,by rw [e,List.length_map,Nat.mul_one];rfl⟩;rw [e];simp only [Builtin.firstCells];show Result.ok _ _=_
 congr 1
 have d:s.extract 0 s.size=s:=by
  apply ByteArray.ext;rw [ByteArray.data_extract];exact Array.extract_size
 rw [d];apply Array.ext';simp
theorem A4o (w:World) (t xt ty e:TypeId) (i:TypeInfo) (z:Value) (k:P.underlying t=some (.slice e)) (hi:P.info? e=some i) (hz:i.zero=some z) {x:Value} (hs:Src P w xt i.size x n news)
  (o:0<n) (l:(n:Int)<=9223372036854775807) (j:Builtin.nextslicecap n 0*i.bytes<=281474976710656) :
  (Builtin.append_ #[t,xt] ty #[.slice none 0 0,x]).run P w=.ok (.slice (some ⟨w.heap.size,0,none⟩) n (grownCap w n 0 e)) (w.drew.alloc (.cells (news.toArray++Builtin.zeroCells z.cells (grownCap w n 0 e-n)) e)):=by
 obtain ⟨u,m,d⟩:=hs.ty;have b:¬(9223372036854775807<(n:Int)):=by omega
 have c:¬(281474976710656<Builtin.nextslicecap n 0*i.bytes):=by omega
 have f:¬n=0:=by omega
 have hd:=hs.drew;have g:∀w':World,(Builtin.firstCells i.size 0 (.slice none 0 0)).run P w'=.ok #[] w':=λ_=>rfl;rcases d with ⟨e',rfl⟩|rfl<;>simp [Builtin.append_,run_underlying k,run_underlying m,sizeOf,typeInfo,zeroValue,hi,hz,hs.len,f,b,c,Question.forced,hd,g,newRow,grownCap]
theorem A38 (w:World) (t xt ty e:TypeId) (i:TypeInfo) (z:Value) (m:P.underlying t=some (.slice e)) (hi:P.info? e=some i) (hz:i.zero=some z) (b:Addr) (sLen sCap:Nat) (olds:List Value) (f:olds.length=sLen*i.size) (holds:∀j v,olds[j]? = some v->w.cell? (b.add j)=some v)
  {x:Value} (hs:Src P w xt i.size x n news) (r:sCap<sLen+n) (o:((sLen+n:Nat):Int)<=9223372036854775807) (l:Builtin.nextslicecap (sLen+n) sCap*i.bytes<=281474976710656) :
  (Builtin.append_ #[t,xt] ty #[.slice (some b) sLen sCap,x]).run P w =
   .ok (.slice (some ⟨w.heap.size,0,none⟩) (sLen+n) (grownCap w (sLen+n) sCap e)) (w.drew.alloc (.cells (olds.toArray++news.toArray++Builtin.zeroCells z.cells (grownCap w (sLen+n) sCap e-(sLen+n))) e)):=by
 obtain ⟨u,p,g⟩:=hs.ty;have q:¬(sLen+n<=sCap):=by omega
 have c:¬(9223372036854775807<((sLen:Int)+(n:Int))):=by omega
 have d:¬(281474976710656<Builtin.nextslicecap (sLen+n) sCap*i.bytes):=by omega
 have hd:=hs.drew;have k:=run_firstCells_some (P:=P) w.drew i.size sLen b sLen sCap olds f (by simpa using holds);rcases g with ⟨e',rfl⟩|rfl<;>simp [Builtin.append_,run_underlying m,run_underlying p,sizeOf,typeInfo,zeroValue,hi,hz,hs.len,q,c,d,Question.forced,hd,k,newRow,grownCap]<;>simp [←Array.append_assoc]
theorem A3a (w w':World) (t xt ty e:TypeId) (i:TypeInfo) (d:P.underlying t=some (.slice e)) (hi:P.info? e=some i) (base:Addr) (sLen sCap:Nat)
  {x:Value} (hs:Src P w xt i.size x n news) (f:sLen+n<=sCap) (b:(storeCells (base.add (sLen*i.size)) news).run P w=.ok () w') :
  (Builtin.append_ #[t,xt] ty #[.slice (some base) sLen sCap,x]).run P w=.ok (.slice (some base) (sLen+n) sCap) w':=by
 obtain ⟨u,g,c⟩:=hs.ty;have hd:=hs.cells w (λ_ _=>rfl);rcases c with ⟨e',rfl⟩|rfl<;>simp [Builtin.append_,run_underlying d,run_underlying g,sizeOf,typeInfo,hi,hs.len,f,hd,b]
theorem A39 (w:World) (t xt ty e:TypeId) (i:TypeInfo) (c:P.underlying t=some (.slice e)) (hi:P.info? e=some i) {x:Value} (hs:Src P w xt i.size x 0 news) :
  (Builtin.append_ #[t,xt] ty #[.slice none 0 0,x]).run P w=.ok (.slice none 0 0) w:=by
 obtain ⟨u,d,b⟩:=hs.ty;have hd:=hs.cells w (λ_ _=>rfl);rcases b with ⟨e',rfl⟩|rfl<;>simp [Builtin.append_,run_underlying c,run_underlying d,sizeOf,typeInfo,hi,hs.len,hd]
theorem B2i (M':Option Addr->Nat->List (Nat×Value)) (i:Nat) {t:Nat} {x:Value} (hF:Fr N ds M a) (hS:St w0 H w) (hi:H[i]? = some (arrT e sz f ad l.length cap l)) (b2:As ops N=true)
  (hs:EffAt ops k M (Builtin.append_ #[t,xt] ty #[.slice ad l.length cap,x])) (c3:Jl P t e sz bytes=true) (b:Src P w xt sz x l'.length (l'.flatMap f)) (h1:∀x∈l',(f x).all Value.oneCell'=true) (c4:apd bytes l l'=some l3)
  (hM:∀ad2 cap2,NextM ops k M (.slice ad2 l3.length cap2) (M' ad2 cap2))
  (next:∀ad2 cap2 w' a',Fr N ds (M' ad2 cap2) a'->St w0 (H.set i (arrT e sz f ad2 l3.length cap2 l3)) w'->K a' w'):SK P r ops k K a w:=by
 obtain ⟨rfl,hb,b3⟩:=Lh c4;have b4:=hS.holds _ (List.mem_of_getElem? hi);have c:(l++l').length=l.length+l'.length:=List.length_append;obtain ⟨_,s,h3⟩:=b4;obtain ⟨inf,z,ht,o,hz,b5,c5,c6,d4⟩:=G0 c3;subst b5 c5;have b6:∀u∈l'.flatMap f,u.oneCell'=true:=λu v=>by
  obtain ⟨x,hx,c8⟩:=List.mem_flatMap.1 v;exact List.all_eq_true.1 (h1 x hx) u c8
 have hl:=b.size;have fin:∀(ad2:Option Addr) (cap2:Nat) (w':World),(Builtin.append_ #[t,xt] ty #[.slice ad l.length cap,x]).run P w=.ok (.slice ad2 (l.length+l'.length) cap2) w' ->
   (arrT e inf.size f ad2 (l++l').length cap2 (l++l')).holds w'->w'.os=w.os->w'.tape=w.tape->w'.output=w.output->w.heap.size<=w'.heap.size->(∀j,j<w.heap.size->¬(Go.Eng.arrT e inf.size f ad l.length cap l).foot j->w'.heap[j]? = w.heap[j]?) ->
   (∀j,(Go.Eng.arrT e inf.size f ad2 (l++l').length cap2 (l++l')).foot j->(Go.Eng.arrT e inf.size f ad l.length cap l).foot j\/w.heap.size<=j)->SK P r ops k K a w:=by
  intro ad2 cap2 w' hr hh g1 g2 g3 g4 g5 g6;refine Y7 hF b2 hs hr (by rw [←c];exact hM ad2 cap2) ?_;intro a' c9;exact next ad2 cap2 w' a' c9 (hS.upd hi g1 g2 g3 g4 g5 hh g6)
 have d:(l++l').flatMap f=l.flatMap f++l'.flatMap f:=List.flatMap_append;have y:((l++l').flatMap f).length=(l++l').length*inf.size:=by rw [d,List.length_append,s,hl,c,Nat.add_mul]
 have p:l.length+l'.length<=9223372036854775807:=by simp only [maxLen] at b3;omega
 have grown:∀(old:Nat),old<l.length+l'.length ->
   (Go.Eng.arrT e inf.size f (some ⟨w.heap.size,0,none⟩) (l++l').length (grownCap w (l.length+l'.length) old e) (l++l')).holds (w.drew.alloc (.cells ((l.flatMap f).toArray++(l'.flatMap f).toArray++Builtin.zeroCells z.cells (grownCap w (l.length+l'.length) old e-(l.length+l'.length))) e)):=by
  intro old ho;have d0:=grownCap_ge w (l.length+l'.length) old e;have b0:grownCap w (l.length+l'.length) old e<=maxLen:=grownCap_le_maxLen w (l.length+l'.length) old e b3;refine ⟨rfl,y,.inr ⟨w.heap.size,0,_,_,rfl,heap_alloc_new w.drew _,.inl rfl,by rw [c];exact d0,b0,?_,?_⟩⟩
  ·simp only [Array.size_append,List.size_toArray,size_zeroCells,c6,s,hl,←Nat.add_mul];rw [Nat.zero_add];exact Nat.mul_le_mul_right _ (by omega)
  ·simp only [Array.toList_append,List.drop_zero];rw [←y,d];exact List.take_left
 rcases h3 with ⟨rfl,h4,rfl⟩|⟨g,off,cur,fz,rfl,hg,b7,e2,b0,e3,n⟩
 ·have hx:l=[]:=List.eq_nil_of_length_eq_zero h4;subst hx
  by_cases hm:l'.length=0
  ·have hn:l'=[]:=List.eq_nil_of_length_eq_zero hm;subst hn;refine fin none 0 w ?_ ⟨rfl,by simp,.inl ⟨rfl,by simp,rfl⟩⟩ rfl rfl rfl (Nat.le_refl _) (λ_ _ _=>rfl) (λj hj=>.inl hj);exact A39 w t xt ty e inf ht o b
  ·have hr:=A4o (P:=P) w t xt ty e inf z ht o hz b (by omega) (by simp at p;omega) (growslice_fits (by omega) (by simpa using hb));have b8:=grown 0 (by simp;omega);simp only [List.length_nil,Nat.zero_add,List.nil_append,List.flatMap_nil,Array.empty_append] at b8 hr fin ⊢;refine fin _ _ _ hr b8 rfl rfl rfl (by simp) (λj hj _=>A5k w.drew _ j hj) (λj hj=>?_);obtain ⟨_,hj⟩:=hj
   cases hj
   exact .inr (Nat.le_refl _)
 ·by_cases m:l.length+l'.length<=cap
  ·have d5:(l.length+l'.length)*inf.size<=cap*inf.size:=Nat.mul_le_mul_right _ m;have q:=Nat.add_mul l.length l'.length inf.size;have b9:off+l.length*inf.size+(l'.flatMap f).length<=cur.size:=by rw [hl];omega
   have c0:=Z2 (P:=P) g (off+l.length*inf.size) e fz (l'.flatMap f) 0 cur w hg b7 (by simpa using b9) b6;simp only [Nat.add_zero] at c0;refine fin (some ⟨g,off,none⟩) cap (w.setRow g (cur.toList.take (off+l.length*inf.size)++l'.flatMap f++cur.toList.drop (off+l.length*inf.size+(l'.flatMap f).length)).toArray) ?_ ⟨rfl,y,.inr ⟨g,off,_,fz,rfl,setRow_heap w g cur _ e _ hg,?_,by rw [c];exact m,b0,?_,?_⟩⟩ rfl rfl rfl (by simp [World.setRow]) (λj _ hj=>setRow_other w g j _ (λhe=>hj ⟨off,by rw [he]⟩)) (λj hj=>.inl hj)
   ·exact A3a w _ t xt ty e inf ht o _ _ _ b m (by rw [Addr.add_lit];exact c0)
   ·refine b7.imp id λh=>?_;have:cur.toList.length=cur.size:=by simp
    simp only [List.size_toArray,List.length_append,List.length_take,List.length_drop];omega
   ·have:cur.toList.length=cur.size:=by simp
    simp only [List.size_toArray,List.length_append,List.length_take,List.length_drop];omega
   ·have d2:cur.toList.length=cur.size:=by simp
    have hz:(cur.toList.take (off+l.length*inf.size)).length=off+l.length*inf.size:=by rw [List.length_take];omega
    rw [c,d,←n,Nat.add_mul,←hl];simp only [List.append_assoc];rw [List.drop_append_of_le_length (by omega),List.drop_take,Nat.add_sub_cancel_left,List.take_append,List.length_take,List.length_drop,d2];have e1:min (l.length*inf.size) (cur.size-off)=l.length*inf.size:=by omega
    rw [e1,List.take_of_length_le (by rw [List.length_take,List.length_drop];omega),Nat.add_sub_cancel_left,List.take_append_of_le_length (by omega),List.take_of_length_le (Nat.le_refl _)]
  ·have holds:∀j u,(l.flatMap f)[j]? = some u->w.cell? ((⟨g,off,none⟩:Addr).add j)=some u:=by
    intro j u v;have q:(⟨g,off,none⟩:Addr).add j=⟨g,off+j,none⟩:=by unfold Addr.add;split<;>simp_all
    rw [q];rw [←n,List.getElem?_take] at v
    split at v
    ·rw [List.getElem?_drop] at v;simp only [World.cell?,hg]
     simpa using v
    ·cases v
   have hr:=A38 (P:=P) w t xt ty e inf z ht o hz ⟨g,off,none⟩ l.length cap (l.flatMap f) s holds b (by omega) (by omega) (growslice_fits (by omega) hb);refine fin _ _ _ hr (grown cap (by omega)) rfl rfl rfl (by simp) (λj hj _=>A5k w.drew _ j hj) (λj hj=>?_);obtain ⟨_,hj⟩:=hj
   cases hj
   exact .inr (Nat.le_refl _)
theorem V6 (M':Option Addr->Nat->List (Nat×Value)) (i:Nat) {t:Nat} (j:Fr N ds M a) (m:St w0 H w) (hi:H[i]? = some (arrT e sz f ad l.length cap l)) (b:As ops N=true)
  (hs:EffAt ops k M (Builtin.append_ #[t,t] ty #[.slice ad l.length cap,.slice sad l'.length scap])) (c:Jl P t e sz bytes=true) (d:Arr w sz f sad l'.length scap l') (h1:∀x∈l',(f x).all Value.oneCell'=true) (g:apd bytes l l'=some l3)
  (n:∀ad2 cap2,NextM ops k M (.slice ad2 l3.length cap2) (M' ad2 cap2))
  (next:∀ad2 cap2 w' a',Fr N ds (M' ad2 cap2) a'->St w0 (H.set i (arrT e sz f ad2 l3.length cap2 l3)) w'->K a' w'):SK P r ops k K a w:=by
 obtain ⟨inf,z,o,_⟩:=G0 c;exact B2i M' i j m hi b hs c (Src.slice o d) h1 g n next
def A2n (P:Program) (t:TypeId):Bool:=match P.underlying t with|some .string=>true|_=>false
theorem Ur {t:TypeId} (h:A2n P t=true):P.underlying t=some .string:=by
 unfold A2n at h
 split at h
 ·assumption
 ·cases h
theorem B2h (M':Option Addr->Nat->List (Nat×Value)) (i:Nat) {e:TypeId} {t:Nat} {s:ByteArray} {l l3:List Int} (f:Fr N ds M a) (g:St w0 H w) (hi:H[i]? = some (arrT e 1 (fK .u8) ad l.length cap l)) (b:As ops N=true)
  (hs:EffAt ops k M (Builtin.append_ #[t,xt] ty #[.slice ad l.length cap,.string s])) (c:Jl P t e 1 bytes=true) (j:A2n P xt=true) (d:apd bytes l (sby s)=some l3)
  (m:∀ad2 cap2,NextM ops k M (.slice ad2 l3.length cap2) (M' ad2 cap2))
  (next:∀ad2 cap2 w' a',Fr N ds (M' ad2 cap2) a'->St w0 (H.set i (arrT e 1 (fK .u8) ad2 l3.length cap2 l3)) w'->K a' w'):SK P r ops k K a w :=
 B2i M' i f g hi b hs c (by rw [Qp];exact Src.string s (Ur j)) (λ_ _=>rfl) d m next
end
def fA {α:Type} (f:α->List Value) (x:α):Value:=.agg (f x).toArray
section
variable {c:List α} {l:List β}
end
section
variable {e t:Nat}
end
section
end
section
variable {f:γ->Value} {css:List (List (Z8 γ n))} {L L3:List (List (Z8 γ n))} {l l3:List (Z8 γ n)} {eo e:Nat}
end
def B0s (s:ByteArray) (i:Int):Option Int:=if 0<=i/\i<s.size then some ((s[i.toNat]!).toNat:Int) else none
def nmC (x:Nat):Bool:=!(decide (97<=x)&&decide (x<=122)||decide (48<=x)&&decide (x<=57)||x==95)
def B5t (s:ByteArray):Bool:=decide (0<=Lib.idxFunc nmC true s)
def A8l (l:List Int) (c:Int):Int:=Lib.indexByte (Lib.bytesOf l) c.toNat.toUInt8
def bst (l:List Int):ByteArray:=⟨(l.map λx=>UInt8.ofNat x.toNat).toArray⟩
theorem Zu:∀(l:List Int) (s:ByteArray),l.foldl (λr n=>r.push (UInt8.ofNat n.toNat)) s=⟨s.data++(l.map λx=>UInt8.ofNat x.toNat).toArray⟩
 | [],s=>by simp
 | x::l,s=>by
  simp only [List.foldl_cons];rw [Zu l];simp [ByteArray.push]
def Xt (P:Program) (t:TypeId):Bool:=match P.underlying t with
 | some (.slice e)=>match P.underlying e with|some (.int .u8)=>true|_=>false
 | _=>false
theorem Vk {t:TypeId} (h:Xt P t=true):∃e,P.underlying t=some (.slice e)/\P.underlying e=some (.int .u8):=by
 unfold Xt at h
 split at h
 ·rename_i e he
  split at h
  ·rename_i b;exact ⟨e,he,b⟩
  ·cases h
 ·cases h
section
variable {cs:List Cd}
theorem Yv {src dst:TypeId} {l:List Int} (hs:Xt P src=true) (hd:A2n P dst=true) (h:∀w',D w'->Arr w' 1 (fK .u8) ad l.length cap l) :
  Ob.ok P T D (.run cs (convert src dst (.slice ad l.length cap)) (.string (bst l))):=by
 intro _ w' e;obtain ⟨el,h1,k⟩:=Vk hs;rw [run_convert_bytes_string w' src dst el ad l.length cap h1 k (Ur hd)];have f:=h w' e
 cases ad with
 | none =>
  have m:l=[]:=by
   obtain ⟨_,ad',cap',he,_,_,_,c⟩:=f
   cases he
   rcases Nat.eq_zero_or_pos l.length with g|g
   ·exact List.eq_nil_of_length_eq_zero g
   ·obtain ⟨a,f,_⟩:=c g;cases f
  subst m;rfl
 | some a =>
  have c:∀j u,(l.map (Value.int .u8))[j]? = some u->w'.cell? (a.add j)=some u:=by
   obtain ⟨_,ad',cap',he,_,_,_,c⟩:=f
   cases he
   intro j u i;have hj:j<l.length:=by have:=(List.getElem?_eq_some_iff.1 i).1;simpa using this
   obtain ⟨b,hb,_,h⟩:=c (by omega)
   cases hb
   refine h j u ?_;show (l.flatMap λx=>[Value.int .u8 x])[j]? = _;rw [A5g];exact i
  have d:=run_loadCells_list (P:=P) w' a (l.map (Value.int .u8)) c;rw [List.length_map] at d;rw [run_bytesToString w' a l.length cap l d,Zu];show Result.ok (Value.string ⟨#[]++_⟩) w'=_;simp [bst]
theorem A98 {t:TypeId} {s:ByteArray} {i u:Int} (c:A2n P t=true) (h:Bc cs=true->B0s s i=some u):Ob.ok P T D (.run cs (Instr.index t (.string s) (.int .i64 i)) (.int .u8 u)):=by
 intro d w' _;have h:=h d;unfold B0s at h
 split at h
 ·rename_i e
  cases h
  have b:i.toNat<s.size:=by omega
  have e1:s[i.toNat]? = some (s[i.toNat]!):=by
   rw [getElem?_pos s i.toNat b,getElem!_pos s i.toNat b]
  simp [Instr.index,run_underlying (Ur c),asIntOf,e.1,e1]
 ·cases h
def sEq (a b:ByteArray):Bool:=decide (a.data.toList=b.data.toList)
theorem Vx {a b:ByteArray}:sEq a b=true↔a=b:=by
 unfold sEq;rw [decide_eq_true_eq];constructor
 ·intro h;have:a.data=b.data:=Array.toList_inj.1 h
  cases a;cases b;simp only [ByteArray.mk.injEq];exact this
 ·rintro rfl;rfl
theorem Q3 (a b:ByteArray):(a.toList==b.toList)=sEq a b:=by
 rw [Lib.toList_data,Lib.toList_data];unfold sEq;rw [Bool.eq_iff_iff];simp
theorem A97 {t:TypeId} {a b:ByteArray}:Ob.ok P T D (.run cs (Wf .eql t a b) (.bool (sEq a b))):=λ_ w' _=>by
 rw [←Q3];simp [Wf,eqGuard,binOp,Op.stringOp]
theorem A2y {t:TypeId} {a b:ByteArray}:Ob.ok P T D (.run cs (Wf .neq t a b) (.bool (!sEq a b))):=λ_ w' _=>by
 rw [←Q3];simp [Wf,eqGuard,binOp,Op.stringOp]
structure ConvAt (ops:Array Oper) (k:Nat) (M:List (Nat×Value)) (src dst:TypeId) (v:Value):Prop where
 eq:((plainAt ops k M).bind λo=>match o.op with|.convert s t x=>some (s,t,rhoE (ofM M) x)|_=>none)=some (src,dst,v)
theorem A0w (M':List (Nat×Value)) (i:Nat) {e:TypeId} {src:Nat} {l:List Int} (hF:Fr N ds M a) (hS:St w0 H w) (hi:H[i]? = some (arrT e 1 (fK .u8) ad l.length cap l)) (n:l.length≠0) (d:As ops N=true) (hs:ConvAt ops k M src src (.slice ad l.length cap)) (h2:Xt P src=true)
  (hM:NextM ops k M (.slice ad l.length cap) M')
  (next:∀w' a',Fr N ds M' a'->St w0 (H.set i (arrT e 1 (fK .u8) ad l.length cap l)) w'->K a' w'):SK P r ops k K a w:=by
 obtain ⟨el,hu,hv⟩:=Vk h2;have hs:=hs.eq;have f:=hS.holds _ (List.mem_of_getElem? hi);obtain ⟨_,p,h3⟩:=f;rcases h3 with ⟨_,h0,_⟩|⟨g,off,cur,fz,rfl,q,s,t,u,y,c⟩
 ·exact absurd h0 n
 cases ho:plainAt ops k M with
 | none=>rw [ho] at hs;simp at hs
 | some o =>
  rw [ho] at hs;simp only [Option.bind_some] at hs
  split at hs
  ·rename_i s' t' x z
   simp at hs;obtain ⟨rfl,rfl,hx⟩:=hs;have b0:w.shape? g=some (e,cur.size):=by unfold World.shape?;rw [q]
   have c2:g<w.heap.size:=(Array.getElem?_eq_some_iff.1 q).1;refine A4j (v:=.slice (some ⟨g,off,none⟩) l.length cap) hF d ho (w':=w.freeze ⟨g,cur.size,none⟩ 1) ?_ hM ?_
   ·unfold execOp;rw [z];simp [hx,convert,run_underlying hu,run_underlying hv,markStringish,b0]
   ·intro a' b1;have m:(w.freeze ⟨g,cur.size,none⟩ 1).heap[g]? = some (.cells cur e (if fz.1==fz.2 then (cur.size,cur.size+1) else (min fz.1 cur.size,max fz.2 (cur.size+1)))):=by
     simp [World.freeze,Array.getElem?_modify,q]
    refine next _ a' b1 (hS.upd hi rfl rfl rfl ?_ (λj hj b2=>?_) ⟨rfl,p,.inr ⟨g,off,cur,_,rfl,m,.inr ?_,t,u,y,c⟩⟩ (λj hj=>.inl hj))
    ·simp [World.freeze]
    ·unfold World.freeze;rw [if_neg (by decide)];simp only [Array.getElem?_modify];rw [if_neg (λhe=>b2 ⟨off,by rw [he]⟩)]
    ·split
     ·exact Nat.le_refl _
     ·rename_i b
      rcases s with h|h
      ·rw [h] at b;exact absurd rfl b
      ·show cur.size<=min fz.1 cur.size;omega
  ·simp at hs
theorem ArrM.of_arrT {e:Nat} (h:∀w,FrzAt μ w->(arrT e sz f ad l.length cap l).holds w):ArrM μ sz f ad cap l:=λw b=>A53 (h w b)
structure InvAt (ops:Array Oper) (k:Nat) (M:List (Nat×Value)) (v:Value) (n:String) (args:Array Value):Prop where
 eq:((plainAt ops k M).bind λo=>match o.op with|.call c=>(match c.callee with|.invoke x n=>some (rhoE (ofM M) x,n,c.args.map (rhoE (ofM M)))|_=>none)|_=>none)=some (v,n,args)
def A7i (P:Program) (v:Value) (n:String) (args:Array Value) (C:FuncId->Array Value->Prop):Prop:=∃f gs,pureSem P (callMethod v n args)=some (.enter f gs)/\C f gs
theorem B0t {n:String} {f:FuncId} {gs:Array Value} (g:pureSem P (callMethod v n args)=some (.enter f gs))
  (h:(match o.op with|.call c=>(match c.callee with|.invoke x n=>some (rhoE (ofM M) x,n,c.args.map (rhoE (ofM M)))|_=>none)|_=>none)=some (v,n,args)):(execOp (rhoE (ofM M)) o).run P w=.ok (.enter f gs) w:=by
 split at h
 ·rename_i c b
  split at h
  ·rename_i x n' d
   simp at h;obtain ⟨rfl,rfl,rfl⟩:=h;unfold execOp;rw [b];simp only [resolve,d];have:=Bd _ _ g w;generalize e:Array.map (rhoE (ofM M)) c.args=A at *;have i:A.size=c.args.size:=by rw [←e,Array.size_map]
   have e1:(#[rhoE (ofM M) x]++A)[0]? = some (rhoE (ofM M) x):=by rw [Array.getElem?_append_left (by simp)];rfl
   have e2:A.extract 0 A.size=A:=Array.extract_size;simp [resolve,d,invoke,e];rw [e1];simp only [e2];exact this
  ·cases h
 ·cases h
theorem A21 (M':Value->List (Nat×Value)) {n:String} {R:Value->World->Prop} (d:Fr N ds M a) (b:As ops N=true) (hs:InvAt ops k M v n args)
  (c:A7i P v n args (λf gs=>Fg P f gs w R)) (g:∀u,NextM ops k M u (M' u)) (next:∀u w' a',R u w'->Fr N ds (M' u) a'->K a' w'):SK P r ops k K a w:=by
 have hs:=hs.eq;obtain ⟨f,gs,i,c⟩:=c
 cases ho:plainAt ops k M with
 | none=>rw [ho] at hs;simp at hs
 | some o =>
  rw [ho] at hs;simp only [Option.bind_some] at hs;obtain ⟨h1,j,l⟩:=H7 (r:=r) ho d;refine ⟨o,h1,?_⟩;unfold OpG OpR;rw [if_pos j,l,B0t i hs];refine Calls.mono c ?_;rintro e w'' ⟨u,rfl,m⟩;exact ⟨u,rfl,next u w'' _ m (Fp h1 b d (g u))⟩
theorem Calls.toR {f:FuncId} (h:Calls P f args w (λe w'=>e=.returned v/\Ext w w')):Fg P f args w (λu w'=>u=v/\Ext w w'):=Calls.mono h λe w' h=>⟨_,h.1,rfl,h.2⟩
theorem A5y (M':List (Nat×Value)) (i:Nat) {t:TypeId} {cs:Array Value} (off:Nat) (v:Value) (cs':Array Value) (h1:v.cells=#[v]/\v.oneCell'=true) (g:Fr N ds M a) (j:St w0 H w) (hi:H[i]? = some (blk b tt cs)) (c:As ops N=true)
  (hs:StoreAt ops k M t (.pointer (some ⟨b,off,none⟩)) v) (e:pureSem P (sizeOf t)=some 1) (d:Nat.ble (off+1) cs.size=true) (f:Wv cs off [v]=cs')
  (l:NextM ops k M undef M') (next:∀w' a',Fr N ds M' a'->St w0 (H.set i (blk b tt cs')) w'->K a' w'):SK P r ops k K a w :=
 Qw M' i off v cs' g j hi c hs (by rw [h1.1];exact e) (by rw [h1.1];simp [h1.2]) (by rw [h1.1];exact d) (by rw [h1.1];exact f) l next
def A7e (P:Program) (f:FuncId) (args:Array Value) (w:World) {α ε:Type} (y:Except (Value×ε) α) (R:α->Value->World->Prop) (Rp:ε->World->Prop):Prop :=
 Calls P f args w (λe w'=>(∃x v,y=.ok x/\e=.returned v/\R x v w')\/∃x,y=.error x/\e=.panicked [{ v:=x.1,recovered:=false }]/\Rp x.2 w')
theorem U8 (M':Value->List (Nat×Value)) {f:FuncId} {ε:Type} {y:Except (Value×ε) α} {R:α->Value->World->Prop} {Rp:ε->World->Prop} (g:Fr N ds M a) (c:As ops N=true) (hs:CallAt P ops k M f args)
  (i:A7e P f args w y R Rp) (j:∀v,NextM ops k M v (M' v))
  (l:∀x w',y=.error x->Rp x.2 w'->Q (.panic [{ v:=x.1,recovered:=false }]) a w')
  (next:∀x v w' a',y=.ok x->R x v w'->Fr N ds (M' v) a'->WI P r ops Q (k+1) a' w'):WI P r ops Q k a w :=
 B5a M' (R:=λv w'=>∃x,y=.ok x/\R x v w') (Rp:=λch w'=>∃x,y=.error x/\ch=[{ v:=x.1,recovered:=false }]/\Rp x.2 w') g c hs
  (Calls.mono i (by
   rintro e w' (⟨x,v,h1,rfl,b⟩|⟨x,h1,rfl,b⟩)
   ·exact .inl ⟨v,rfl,x,h1,b⟩
   ·exact .inr ⟨_,rfl,x,h1,rfl,b⟩)) j
  (by rintro ch w' ⟨x,h1,rfl,b⟩;exact l x w' h1 b)
  (by rintro v w' a' ⟨x,h1,b⟩ d;exact next x v w' a' h1 b d)
def asI (t:Nat) (k:IntKind) (v:Value):Option Int:=match v with|.iface u (.int k' z)=>if u=t/\k'=k then some z else none|_=>none
theorem B2z {t:Nat} {k:IntKind} {z:Int} (h:asI t k v=some z):v=.iface t (.int k z):=by
 unfold asI at h
 split at h
 ·split at h
  ·rename_i h1;cases h;obtain ⟨rfl,rfl⟩:=h1;rfl
  ·cases h
 ·cases h
end
abbrev FM:=List (Nat×Value)
class Pre (n M:FM) (M':outParam FM):Prop
instance {M:FM}:Pre [] M M:=⟨⟩
instance {e:Nat×Value} {n M M':FM} [Pre n M M']:Pre (e::n) M (e::M'):=⟨⟩
class SetL (l:List Value) (i:Nat) (v:Value) (l':outParam (List Value)):Prop
instance {x v:Value} {l:List Value}:SetL (x::l) 0 v (v::l):=⟨⟩
instance {x v:Value} {l l':List Value} {i:Nat} [SetL l i v l']:SetL (x::l) (i+1) v (x::l'):=⟨⟩
class Spt (n:Nat) (l:List Nat) (a b:outParam (List Nat)):Prop
instance {l:List Nat}:Spt 0 l [] l:=⟨⟩
instance {n x:Nat} {l a b:List Nat} [Spt n l a b]:Spt (n+1) (x::l) (x::a) b:=⟨⟩
theorem B7k {α:Type _} {a b:α} (h:some a=some b):a=b:=Option.some.inj h
section
variable {M M':FM}
theorem qn (n k':Nat) (nw:FM) (c:Fr N ds M a) (next:∀a',Fr N ds M' a'->WI P r ops Q k' a' w) [Pre nw M M'] (b:As ops N=true:=by kernel_rfl) (h:Ends P ops n k M M' []:=by exact ⟨by kernel_rfl⟩) (d:k+n=k':=by rfl):WI P r ops Q k a w :=
 A37 k' M' c b A6 h d next
theorem qo (n k':Nat) (nw:FM) (e:Fr N ds M a) (d:Obs P (λa b=>b=a) (λx=>x=w) obs) (next:∀a',Fr N ds M' a'->WI P r ops Q k' a' w) [Pre nw M M'] (c:As ops N=true:=by kernel_rfl) (h:Ends P ops n k M M' obs:=by exact ⟨by kernel_rfl⟩) (f:k+n=k':=by rfl):WI P r ops Q k a w :=
 A37 k' M' e c d h f next
theorem qx (n k':Nat) (nw:FM) (d:Fr N ds M a) (c:Obs P Ext (Ext w) obs) (next:∀a' w',Fr N ds M' a'->Ext w w'->WI P r ops Q k' a' w') [Pre nw M M'] (b:As ops N=true:=by kernel_rfl) (h:Ends P ops n k M M' obs:=by exact ⟨by kernel_rfl⟩) (e:k+n=k':=by rfl):WI P r ops Q k a w :=
 B6l k' M' d b c h e next
end
section
variable {y:Code} {M M':FM}
theorem qnB (nw:FM) (d:Fr N ds M a) (next:∀a',Fr N ds M' a'->WP P r y Q a' w) [Pre nw M M'] (b:As ops N=true:=by kernel_rfl) (h:Ends P ops ops.size 0 M M' []:=by exact ⟨by kernel_rfl⟩):WP P r (.seq (.region id ops false) y) Q a w :=
 esr (A37 ops.size M' d b A6 h (Nat.zero_add _) λa' c=>wfn (Nat.beq_refl _) (next a' c))
theorem qoB (nw:FM) (f:Fr N ds M a) (d:Obs P (λa b=>b=a) (λx=>x=w) obs) (next:∀a',Fr N ds M' a'->WP P r y Q a' w) [Pre nw M M'] (c:As ops N=true:=by kernel_rfl) (h:Ends P ops ops.size 0 M M' obs:=by exact ⟨by kernel_rfl⟩):WP P r (.seq (.region id ops false) y) Q a w :=
 esr (A37 ops.size M' f c d h (Nat.zero_add _) λa' e=>wfn (Nat.beq_refl _) (next a' e))
theorem rnB (M':FM) (d:Fr N ds M a) (next:∀a',Fr N ds M' a'->WP P r y Q a' w) (b:As ops N=true:=by kernel_rfl) (h:Ends P ops ops.size 0 M M' []:=by exact ⟨by kernel_rfl⟩):WP P r (.seq (.region id ops false) y) Q a w :=
 esr (A37 ops.size M' d b A6 h (Nat.zero_add _) λa' c=>wfn (Nat.beq_refl _) (next a' c))
theorem roB (M':FM) (f:Fr N ds M a) (d:Obs P (λa b=>b=a) (λx=>x=w) obs) (next:∀a',Fr N ds M' a'->WP P r y Q a' w) (c:As ops N=true:=by kernel_rfl) (h:Ends P ops ops.size 0 M M' obs:=by exact ⟨by kernel_rfl⟩):WP P r (.seq (.region id ops false) y) Q a w :=
 esr (A37 ops.size M' f c d h (Nat.zero_add _) λa' e=>wfn (Nat.beq_refl _) (next a' e))
end
section
variable {M M':FM}
theorem ro (n k':Nat) (M':FM) (e:Fr N ds M a) (d:Obs P (λa b=>b=a) (λx=>x=w) obs) (next:∀a',Fr N ds M' a'->WI P r ops Q k' a' w) (c:As ops N=true:=by kernel_rfl) (h:Ends P ops n k M M' obs:=by exact ⟨by kernel_rfl⟩) (f:k+n=k':=by rfl):WI P r ops Q k a w :=
 A37 k' M' e c d h f next
theorem rX (n k':Nat) (M':FM) (d:Fr N ds M a) (c:Obs P Ext (Ext w) obs) (next:∀a' w',Fr N ds M' a'->Ext w w'->WI P r ops Q k' a' w') (b:As ops N=true:=by kernel_rfl) (h:Ends P ops n k M M' obs:=by exact ⟨by kernel_rfl⟩) (e:k+n=k':=by rfl):WI P r ops Q k a w :=
 B6l k' M' d b c h e next
theorem rD (m:Nat) (M':FM) (e:Fr N ds M a) (b:Obs P Ext (Ext w) obs) (next:∀a' w',Fr N ds M' a'->Ext w w'->WI P r ops Q m a' w') (c:P.follows .mixedOrders=true:=by kernel_rfl) (d:(As ops N&&P9 ops m&&K9 ops m&&Fy ops&&Nat.ble m ops.size)=true:=by kernel_rfl)
  (h:Ends P ops m 0 M M' obs:=by exact ⟨by kernel_rfl⟩):WP P r (.region id ops true) Q a w:=B6i m M' c e d b h next
theorem qD (m:Nat) (nw:FM) (e:Fr N ds M a) (b:Obs P Ext (Ext w) obs) (next:∀a' w',Fr N ds M' a'->Ext w w'->WI P r ops Q m a' w') [Pre nw M M'] (c:P.follows .mixedOrders=true:=by kernel_rfl) (d:(As ops N&&P9 ops m&&K9 ops m&&Fy ops&&Nat.ble m ops.size)=true:=by kernel_rfl)
  (h:Ends P ops m 0 M M' obs:=by exact ⟨by kernel_rfl⟩):WP P r (.region id ops true) Q a w:=B6i m M' c e d b h next
theorem qs (t i off:Nat) (v:Value) {cs cs':List Value} (j:Fr N ds M a) (l:St w0 H w) (hi:H[i]? = some (blk b tt cs.toArray)) (next:∀w' a',Fr N ds M a'->St w0 (H.set i (blk b tt cs'.toArray)) w'->K a' w') [SetL cs off v cs'] (c:As ops N=true:=by kernel_rfl)
  (hs:StoreAt ops k M t (.pointer (some ⟨b,off,none⟩)) v:=by exact ⟨by kernel_rfl⟩) (f:pureSem P (sizeOf t)=some v.cells.size:=by kernel_rfl) (d:v.cells.toList.all Value.oneCell'=true:=by kernel_rfl) (e:Nat.ble (off+v.cells.size) cs.toArray.size=true:=by kernel_rfl) (g:Wv cs.toArray off v.cells.toList=cs'.toArray:=by kernel_rfl)
  (m:NextM ops k M undef M:=by exact ⟨by kernel_rfl⟩):SK P r ops k K a w:=Qw M i off v cs'.toArray j l hi c hs f d e g m next
theorem qS (t i off:Nat) (v:Value) (cs':Array Value) (j:Fr N ds M a) (l:St w0 H w) (hi:H[i]? = some (blk b tt cs)) (next:∀w' a',Fr N ds M a'->St w0 (H.set i (blk b tt cs')) w'->K a' w') (c:As ops N=true:=by kernel_rfl)
  (hs:StoreAt ops k M t (.pointer (some ⟨b,off,none⟩)) v:=by exact ⟨by kernel_rfl⟩) (f:pureSem P (sizeOf t)=some v.cells.size:=by kernel_rfl) (d:v.cells.toList.all Value.oneCell'=true:=by kernel_rfl) (e:Nat.ble (off+v.cells.size) cs.size=true:=by kernel_rfl) (g:Wv cs off v.cells.toList=cs':=by kernel_rfl)
  (m:NextM ops k M undef M:=by exact ⟨by kernel_rfl⟩):SK P r ops k K a w:=Qw M i off v cs' j l hi c hs f d e g m next
theorem qB {M':Nat->FM} (t:TypeId) (v:Value) (cs:Array Value) (nw:Nat->FM) (e:Fr N ds M a) (f:St w0 H w) (next:∀b w' a',Fr N ds (M' b) a'->St w0 (blk b t cs::H) w'->K a' w') [∀b,Pre (nw b) M (M' b)] (c:As ops N=true:=by kernel_rfl) (hs:EffAt ops k M (Instr.box t v):=by exact ⟨by kernel_rfl⟩) (d:v.cells=cs:=by kernel_rfl)
  (g:∀b,NextM ops k M (.pointer (some ⟨b,0,none⟩)) (M' b):=by exact λ_=>⟨by kernel_rfl⟩):SK P r ops k K a w:=B0i M' v cs e f c hs d g next
theorem qA {M':Nat->FM} (t:TypeId) (cs:Array Value) (nw:Nat->FM) (d:Fr N ds M a) (e:St w0 H w) (next:∀b w' a',Fr N ds (M' b) a'->St w0 (blk b t cs::H) w'->K a' w') [∀b,Pre (nw b) M (M' b)] (c:As ops N=true:=by kernel_rfl) (hs:EffAt ops k M (Instr.alloc t true (.tuple #[])):=by exact ⟨by kernel_rfl⟩)
  (hz:((P.info? t).bind (·.zero)).map Value.cells=some cs:=by kernel_rfl) (f:∀b,NextM ops k M (.pointer (some ⟨b,0,none⟩)) (M' b):=by exact λ_=>⟨by kernel_rfl⟩):SK P r ops k K a w:=A7r M' cs d e c hs hz f next
theorem qR {M':Value->FM} (nw:Value->FM) {f:FuncId} {R:Value->World->Prop} (c:Fr N ds M a) (d:Fg P f args w R) (next:∀v w' a',R v w'->Fr N ds (M' v) a'->K a' w') [∀v,Pre (nw v) M (M' v)] (b:As ops N=true:=by kernel_rfl) (hs:CallAt P ops k M f args:=by exact ⟨by kernel_rfl⟩)
  (e:∀v,NextM ops k M v (M' v):=by exact λ_=>⟨by kernel_rfl⟩):SK P r ops k K a w:=B2k M' c b hs d e next
theorem rR (M':Value->FM) {f:FuncId} {R:Value->World->Prop} (c:Fr N ds M a) (d:Fg P f args w R) (next:∀v w' a',R v w'->Fr N ds (M' v) a'->K a' w') (b:As ops N=true:=by kernel_rfl) (hs:CallAt P ops k M f args:=by exact ⟨by kernel_rfl⟩)
  (e:∀v,NextM ops k M v (M' v):=by exact λ_=>⟨by kernel_rfl⟩):SK P r ops k K a w:=B2k M' c b hs d e next
theorem St.i (h:St w0 H w):∀w',w'=w->St w0 H w':=λ_ e=>h.at_ e
theorem St.e (h:St w0 H w):∀w',Ext w w'->St w0 H w':=λ_ e=>h.later e
theorem oL (t i j:Nat) {u:Value} (hs:∀w',D w'->St w0 H w') (hi:H[i]? = some (blk b tt cs)) (hj:cs[j]? = some u) (l:Obs P T D obs) (c:S4 P t=true:=by kernel_rfl):Obs P T D (.run [] (Instr.loadAt t (.pointer (some ⟨b,j,none⟩))) u::obs) :=
 Dg (ob1 c λw' hd=>(hs w' hd).cell hi hj) l
theorem oN (t i off n:Nat) (hs:∀w',D w'->St w0 H w') (hi:H[i]? = some (blk b tt cs)) (l:Obs P T D obs) (c:Qf P t=some ((cs.toList.drop off).take n).length:=by kernel_rfl) (d:(cs.toList.drop off).take ((cs.toList.drop off).take n).length=(cs.toList.drop off).take n:=by kernel_rfl) :
  Obs P T D (.run [] (Instr.loadAt t (.pointer (some ⟨b,off,none⟩))) (.agg ((cs.toList.drop off).take n).toArray)::obs):=Dg (obN c λw' hd=>((hs w' hd).blk hi).cells d) l
theorem oA (t:TypeId) {z:Int} (h:ck (x+y)=some z) (l:Obs P T D obs):Obs P T D (.run [] (binOp .add t (.int .i64 x) (.int .i64 y)) (.int .i64 z)::obs):=Dg (A1d λ_=>h) l
theorem oS (t:TypeId) {z:Int} (h:ck (x-y)=some z) (l:Obs P T D obs):Obs P T D (.run [] (binOp .sub t (.int .i64 x) (.int .i64 y)) (.int .i64 z)::obs):=Dg (Wp λ_=>h) l
theorem oM (t:TypeId) {z:Int} (h:ck (x*y)=some z) (l:Obs P T D obs):Obs P T D (.run [] (binOp .mul t (.int .i64 x) (.int .i64 y)) (.int .i64 z)::obs):=Dg (B3p λ_=>h) l
theorem oQ (t:TypeId) {z:Int} (h:Mc x y=some z) (l:Obs P T D obs):Obs P T D (.run [] (binOp .quo t (.int .i64 x) (.int .i64 y)) (.int .i64 z)::obs):=Dg (B3q λ_=>h) l
theorem oR (t:TypeId) {z:Int} (h:J9 x y=some z) (l:Obs P T D obs):Obs P T D (.run [] (binOp .rem t (.int .i64 x) (.int .i64 y)) (.int .i64 z)::obs):=Dg (A4d λ_=>h) l
theorem oC {f:FuncId} (h:∀w',D w'->Calls P f args w' (λe w''=>e=.returned v/\T w' w'')) (l:Obs P T D obs):Obs P T D (.call [] f args v::obs):=Dg (show Ob.ok P T D (.call [] f args v) from λ_=>h) l
theorem oX (o:Ob) (h:Ob.ok P T D o) (l:Obs P T D obs):Obs P T D (o::obs):=Dg h l
def Ob.gd (cs:List Cd):Ob->Ob
 | .run [] s v=>.run cs s v
 | .call [] f x v=>.call cs f x v
 | o=>o
theorem Ob.gd_ok (cs:List Cd) {o:Ob} (h:o.ok P T D):(o.gd cs).ok P T D:=by
 cases o with
 | run c s v=>cases c with
  | nil=>exact λ_=>h rfl
  | cons _ _=>exact h
 | call c f x v=>cases c with
  | nil=>exact λ_=>h rfl
  | cons _ _=>exact h
theorem oGs (cs:List Cd) {l1:List Ob} (h:Obs P T D l1) (l:Obs P T D obs):Obs P T D (l1.map (Ob.gd cs)++obs):=by
 induction l1 with
 | nil=>exact l
 | cons o r ih=>exact ⟨Ob.gd_ok cs h.1,ih h.2⟩
section
theorem oI (t:TypeId) {i:Int} (h:Arr w sz f ad n cap l) (b:Cj l i=some u) (k:Obs P T D obs) (c:L5 P t sz=true:=by kernel_rfl):Obs P T D (.run [] (Instr.indexAt t (.slice ad n cap) (.int .i64 i)) (.pointer (some (Bb ad i sz)))::obs):=Dg (Na h c λ_=>b) k
theorem oE (t j:Nat) {i:Int} (b:∀x,(f x).length=sz) (h:∀w',D w'->Arr w' sz f ad n cap l) (c:Cj l i=some u) (hj:(f u)[j]? = some v) (k:Obs P T D obs) (d:S4 P t=true:=by kernel_rfl) :
  Obs P T D (.run [] (Instr.loadAt t (.pointer (some ((Bb ad i sz).add j)))) v::obs):=Dg (M8 j b h d (λ_=>c) hj) k
theorem oG (t j m:Nat) {i:Int} (b:∀x,(f x).length=sz) (h:∀w',D w'->Arr w' sz f ad n cap l) (c:Cj l i=some u) (k:Obs P T D obs) (d:(((f u).drop j).take m).length=m:=by kernel_rfl) (e:Qf P t=some m:=by kernel_rfl) :
  Obs P T D (.run [] (Instr.loadAt t (.pointer (some ((Bb ad i sz).add j)))) (.agg (((f u).drop j).take m).toArray)::obs):=Dg (A1e j b h e (λ_=>c) ⟨d,rfl⟩) k
end
end
section
variable {M M':FM}
theorem qC {l rs:List Nat} (n:Nat) (nw:FM) (f:Fr N ds M a) (d:Obs P (λa b=>b=a) D obs) (next:∀a',Fr N ds M' a'->WRun P r ops D eff K rest a' w) [Spt n l rs rest] [Pre nw M M'] (g:l=rs++rest:=by rfl) (c:As ops N=true:=by kernel_rfl) (e:rs.all (λi=>!eff.contains i)=true:=by kernel_rfl) (h:EndsL P ops rs M M' obs:=by exact ⟨by kernel_rfl⟩):WRun P r ops D eff K l a w :=
 g▸B6g rs M' f c e d h next
theorem rC {l rs:List Nat} (n:Nat) (M':FM) (f:Fr N ds M a) (d:Obs P (λa b=>b=a) D obs) (next:∀a',Fr N ds M' a'->WRun P r ops D eff K rest a' w) [Spt n l rs rest] (g:l=rs++rest:=by rfl) (c:As ops N=true:=by kernel_rfl) (e:rs.all (λi=>!eff.contains i)=true:=by kernel_rfl) (h:EndsL P ops rs M M' obs:=by exact ⟨by kernel_rfl⟩):WRun P r ops D eff K l a w :=
 g▸B6g rs M' f c e d h next
end
section
variable {f:FuncId} {c:Code}
class Arg (i:Nat) (l:List Value) (M:outParam FM):Prop
instance {i:Nat}:Arg i [] []:=⟨⟩
instance {i:Nat} {x:Value} {l:List Value} {M:FM} [Arg (i+1) l M]:Arg i (x::l) ((i,x)::M):=⟨⟩
theorem feW (d:P.funcs[f]? = some fn) (N:Nat) (M:FM) (g:St w0 H w) (h:∀a w1,Fr N [] M a->St w0 H w1->WP P none c (bodyPost P fn R) a w1) (hb:fn.body=some c:=by rfl) (i:fn.ntmps=N:=by rfl) (b:Nat.ble args.size N=true:=by rfl)
  (j:M.map (λp=>(args++Array.replicate (N-args.size) undef).getD p.1 undef)=M.map Prod.snd:=by kernel_rfl):Calls P f args w R :=
 A6m d hb N M i b j λa w1 e k=>h a w1 k (g.cast e)
end
section
variable {M:FM}
theorem Ab {c:Nat} {x y:Code} {t:Bool} {u v z:β} (d:Fr N ds M a) (h:(bif t then u else v)=z) (e:t=true->u=z->WP P r x Q a w) (f:t=false->v=z->WP P r y Q a w) (g:lookM M c=some (.bool t):=by rfl):WP P r (.cond (.tmp c) x y) Q a w :=
 Ns d g (λb=>e b (H0 h b)) (λb=>f b (Gz h b))
theorem wK (h:K a w):WP P r .skip (Exit.then K Q) a w:=wpIn_skip (A7 h)
theorem Frz.ext.t {ξ:Frz} (h:μ.ext n ν) (k:ν.ext n ξ):μ.ext n ξ:=Frz.ext_trans h k
theorem Frz.le.t {ξ:Frz} (h:μ.le ν) (k:ν.le ξ):μ.le ξ:=Frz.le_trans h k
end
class Spl (l:List Value) (i:Nat) (us:List Value) (l':outParam (List Value)):Prop
instance {l:List Value}:Spl l 0 [] l:=⟨⟩
instance {x u:Value} {l us l':List Value} [Spl l 0 us l']:Spl (x::l) 0 (u::us) (u::l'):=⟨⟩
instance {x:Value} {l us l':List Value} {i:Nat} [Spl l i us l']:Spl (x::l) (i+1) us (x::l'):=⟨⟩
section
variable {M:FM}
theorem qw (t i:Nat) (cs':Array Value) (j:Fr N ds M a) (l:St w0 H w) (hi:H[i]? = some (blk b tt cs)) (next:∀w' a',Fr N ds M a'->St w0 (H.set i (blk b tt cs')) w'->K a' w') (c:As ops N=true:=by kernel_rfl)
  (hs:StoreAt ops k M t (.pointer (some ⟨b,0,none⟩)) (.agg cs'):=by exact ⟨by kernel_rfl⟩) (f:pureSem P (sizeOf t)=some (Value.agg cs').cells.size:=by kernel_rfl) (d:(Value.agg cs').cells.toList.all Value.oneCell'=true:=by kernel_rfl) (e:Nat.ble (0+(Value.agg cs').cells.size) cs.size=true:=by kernel_rfl) (g:Wv cs 0 (Value.agg cs').cells.toList=cs':=by kernel_rfl)
  (m:NextM ops k M undef M:=by exact ⟨by kernel_rfl⟩):SK P r ops k K a w:=Qw M i 0 (.agg cs') cs' j l hi c hs f d e g m next
theorem qBa {M':Nat->FM} (t:TypeId) (cs:Array Value) (nw:Nat->FM) (d:Fr N ds M a) (e:St w0 H w) (next:∀b w' a',Fr N ds (M' b) a'->St w0 (blk b t cs::H) w'->K a' w') [∀b,Pre (nw b) M (M' b)] (c:As ops N=true:=by kernel_rfl) (hs:EffAt ops k M (Instr.box t (.agg cs)):=by exact ⟨by kernel_rfl⟩)
  (f:∀b,NextM ops k M (.pointer (some ⟨b,0,none⟩)) (M' b):=by exact λ_=>⟨by kernel_rfl⟩):SK P r ops k K a w:=B0i M' (.agg cs) cs d e c hs rfl f next
theorem rBa (t:TypeId) (cs:Array Value) (M':Nat->FM) (d:Fr N ds M a) (e:St w0 H w) (next:∀b w' a',Fr N ds (M' b) a'->St w0 (blk b t cs::H) w'->K a' w') (c:As ops N=true:=by kernel_rfl) (hs:EffAt ops k M (Instr.box t (.agg cs)):=by exact ⟨by kernel_rfl⟩)
  (f:∀b,NextM ops k M (.pointer (some ⟨b,0,none⟩)) (M' b):=by exact λ_=>⟨by kernel_rfl⟩):SK P r ops k K a w:=B0i M' (.agg cs) cs d e c hs rfl f next
theorem rB (t:TypeId) (v:Value) (cs:Array Value) (M':Nat->FM) (e:Fr N ds M a) (f:St w0 H w) (next:∀b w' a',Fr N ds (M' b) a'->St w0 (blk b t cs::H) w'->K a' w') (c:As ops N=true:=by kernel_rfl) (hs:EffAt ops k M (Instr.box t v):=by exact ⟨by kernel_rfl⟩) (d:v.cells=cs:=by kernel_rfl)
  (g:∀b,NextM ops k M (.pointer (some ⟨b,0,none⟩)) (M' b):=by exact λ_=>⟨by kernel_rfl⟩):SK P r ops k K a w:=B0i M' v cs e f c hs d g next
theorem rA (t:TypeId) (cs:Array Value) (M':Nat->FM) (d:Fr N ds M a) (e:St w0 H w) (next:∀b w' a',Fr N ds (M' b) a'->St w0 (blk b t cs::H) w'->K a' w') (c:As ops N=true:=by kernel_rfl) (hs:EffAt ops k M (Instr.alloc t true (.tuple #[])):=by exact ⟨by kernel_rfl⟩)
  (hz:((P.info? t).bind (·.zero)).map Value.cells=some cs:=by kernel_rfl) (f:∀b,NextM ops k M (.pointer (some ⟨b,0,none⟩)) (M' b):=by exact λ_=>⟨by kernel_rfl⟩):SK P r ops k K a w:=A7r M' cs d e c hs hz f next
variable {e:Nat}
def B3g (f:α->List Value) (l:List α):Array (Nat×Value):=(l.zipIdx.map λp=>(p.2,match f p.1 with|[v]=>v|us=>.agg us.toArray)).toArray
theorem qL (e t len:Nat) (l:List α) (nw:Nat->FM) {M':Nat->FM} (d:∀x,(f x).length=sz) (g:Fr N ds M a) (i:St w0 H w) (next:∀b w' a',Fr N ds (M' b) a'->St w0 (arr e sz f (some ⟨b,0,none⟩) l.length len l::H) w'->K a' w') [∀b,Pre (nw b) M (M' b)] (c:As ops N=true:=by kernel_rfl)
  (hs:EffAt ops k M (Instr.buildSlice t len (B3g f l)):=by exact ⟨by kernel_rfl⟩) (hb:N0 P t len (B3g f l)=some (e,(l.flatMap f).toArray):=by kernel_rfl) (j:l.length=len:=by rfl) (m:Nat.ble len 16777216=true:=by kernel_rfl) (n:∀b,NextM ops k M (.slice (some ⟨b,0,none⟩) len len) (M' b):=by exact λ_=>⟨by kernel_rfl⟩):SK P r ops k K a w :=
 B12 M' (B3g f l) _ l g i c hs hb d j rfl m n next
theorem qP (t ty i:Nat) (nw:Option Addr->Nat->FM) {M':Option Addr->Nat->FM} (j:Fr N ds M a) (m:St w0 H w) (b:Arr w sz f sad l'.length scap l') (d:apd bytes l l'=some l3) (hi:H[i]? = some (arr e sz f ad l.length cap l))
  (next:∀ad2 cap2 w' a',Fr N ds (M' ad2 cap2) a'->St w0 (H.set i (arr e sz f ad2 l3.length cap2 l3)) w'->K a' w') [∀ad2 cap2,Pre (nw ad2 cap2) M (M' ad2 cap2)] (h1:∀x∈l',(f x).all Value.oneCell'=true:=by exact λ_ _=>rfl) (c:As ops N=true:=by kernel_rfl)
  (hs:EffAt ops k M (Builtin.append_ #[t,t] ty #[.slice ad l.length cap,.slice sad l'.length scap]):=by exact ⟨by kernel_rfl⟩) (g:Jl P t e sz bytes=true:=by kernel_rfl) (n:∀ad2 cap2,NextM ops k M (.slice ad2 l3.length cap2) (M' ad2 cap2):=by exact λ_ _=>⟨by kernel_rfl⟩):SK P r ops k K a w :=
 B51 M' i j m hi c hs g b h1 d n next
end
section
variable {M M':FM}
theorem qk (k':Nat) (nw:FM) (c:Fr N ds M a) (next:∀a',Fr N ds M' a'->WI P r ops Q k' a' w) [Pre nw M M'] (b:As ops N=true:=by kernel_rfl) (hs:SkipAt ops k M:=by exact ⟨by kernel_rfl⟩) (d:NextM ops k M undef M':=by exact ⟨by kernel_rfl⟩) (e:k+1=k':=by rfl):WI P r ops Q k a w:=A9t k' M' c b hs d e next
theorem rk (k':Nat) (M':FM) (c:Fr N ds M a) (next:∀a',Fr N ds M' a'->WI P r ops Q k' a' w) (b:As ops N=true:=by kernel_rfl) (hs:SkipAt ops k M:=by exact ⟨by kernel_rfl⟩) (d:NextM ops k M undef M':=by exact ⟨by kernel_rfl⟩) (e:k+1=k':=by rfl):WI P r ops Q k a w:=A9t k' M' c b hs d e next
theorem qkW (nw:FM) (d:Fr N ds M a) (next:∀a',Fr N ds M' a'->WRun P r ops D eff K rest a' w) [Pre nw M M'] (b:As ops N=true:=by kernel_rfl) (c:eff.contains k=false:=by kernel_rfl) (hs:SkipAt ops k M:=by exact ⟨by kernel_rfl⟩) (e:NextM ops k M undef M':=by exact ⟨by kernel_rfl⟩):WRun P r ops D eff K (k::rest) a w:=B6t M' d b c hs e next
theorem qkS (nw:FM) (c:Fr N ds M a) (next:∀a',Fr N ds M' a'->K a' w) [Pre nw M M'] (b:As ops N=true:=by kernel_rfl) (hs:SkipAt ops k M:=by exact ⟨by kernel_rfl⟩) (d:NextM ops k M undef M':=by exact ⟨by kernel_rfl⟩):SK P r ops k K a w:=B4n M' c b hs d next
end
section
variable {cs:List Cd} {t:Nat} {s r:ByteArray} {lo hi:Int}
end
section
variable {cs:List Cd} {f:α->Value} {x:Z8 α n} {lo hi:Int} {l2:List α}
end
def A78 (k:IntKind) (x y:Int):Option Int:=if 0<=y then some (x.fdiv (2 ^ min y.toNat k.bits)) else none
def A1v (k:IntKind) (x y:Int):Int:=k.wrap ((BitVec.ofInt k.bits x &&& BitVec.ofInt k.bits y).toNat)
def orK (k:IntKind) (x y:Int):Int:=k.wrap ((BitVec.ofInt k.bits x ||| BitVec.ofInt k.bits y).toNat)
theorem A99 {cs:List Cd} {t:TypeId} {k yk:IntKind} {z:Int} (b:Bc cs=true->A78 k x y=some z):Ob.ok P T D (.run cs (binOp .shr t (.int k x) (.int yk y)) (.int k z)):=by
 intro c w _;have h:=b c;unfold A78 at h
 split at h
 ·rename_i d
  cases h
  have h1:¬y<0:=by omega
  simp [binOp,Op.shift,h1]
 ·cases h
def SlM {α:Type} (sz:Nat) (f:α->List Value) (μ:Frz) (v:Value) (l:List α):Prop:=∃ad cap,v=.slice ad l.length cap/\ArrM μ sz f ad cap l
def SlQ {α:Type} (sz:Nat) (R:Rel α) (μ:Frz) (v:Value) (l:List α):Prop:=∃ad cap css,v=.slice ad l.length cap/\ArrQ μ sz R ad cap css l
def MapS {κ ν:Type} (S:Value->ν->Prop) (Bv:List (κ×Value)) (B:List (κ×ν)):Prop:=All2 (λ(p:κ×Value) (q:κ×ν)=>p.1=q.1/\S p.2 q.2) Bv B
def MapM {κ α:Type} (sz:Nat) (f:α->List Value) (μ:Frz) (Bv:List (κ×Value)) (B:List (κ×List α)):Prop:=MapS (SlM sz f μ) Bv B
def MapQ {κ α:Type} (sz:Nat) (R:Rel α) (μ:Frz) (Bv:List (κ×Value)) (B:List (κ×List α)):Prop:=MapS (SlQ sz R μ) Bv B
section
variable {ν:Type} [DecidableEq κ] {S S2:Value->ν->Prop} {B:List (κ×ν)} {x:κ} {y:ν} {μ':Frz}
theorem MapS.nil:MapS S ([]:List (κ×Value)) ([]:List (κ×ν)):=All2.nil
theorem MapS.imp (h:MapS S Bv B) (hs:∀v y,S v y->S2 v y):MapS S2 Bv B:=by
 unfold MapS at *
 induction h with
 | nil=>exact .nil
 | cons h _ ih=>exact .cons ⟨h.1,hs _ _ h.2⟩ ih
theorem MapS.lk (h:MapS S Bv B) (x:κ):(lkM Bv x=none/\lkM B x=none)\/∃v y,lkM Bv x=some v/\lkM B x=some y/\S v y:=by
 unfold MapS at h
 induction h with
 | nil=>exact .inl ⟨rfl,rfl⟩
 | cons h d ih =>
  rename_i p q bv b
  obtain ⟨e,hs⟩:=h;unfold lkM
  by_cases c:x=p.1
  ·rw [if_pos c,if_pos (by rw [←e];exact c)];exact .inr ⟨_,_,rfl,rfl,hs⟩
  ·rw [if_neg c,if_neg (by rw [←e];exact c)];exact ih
theorem MapS.up (h:MapS S Bv B) (hs:S v y):MapS S (upM Bv x v) (upM B x y):=by
 unfold MapS at *
 induction h with
 | nil=>exact .cons ⟨rfl,hs⟩ .nil
 | cons h d ih =>
  rename_i p q bv b
  obtain ⟨e,f⟩:=h;unfold upM
  by_cases c:x=p.1
  ·rw [if_pos c,if_pos (by rw [←e];exact c)];exact .cons ⟨rfl,hs⟩ d
  ·rw [if_neg c,if_neg (by rw [←e];exact c)];exact .cons ⟨e,f⟩ ih
theorem SlM.mono (h:SlM sz f μ v l) (b:μ.le μ'):SlM sz f μ' v l:=by
 obtain ⟨ad,cap,rfl,h⟩:=h;exact ⟨ad,cap,rfl,h.mono b⟩
theorem SlQ.mono {R:Rel α} (h:SlQ sz R μ v l) (c:R.Mono) (b:μ.le μ'):SlQ sz R μ' v l:=by
 obtain ⟨ad,cap,css,rfl,h⟩:=h;exact ⟨ad,cap,css,rfl,h.mono c b⟩
theorem MapM.mono {B:List (κ×List α)} (h:MapM sz f μ Bv B) (b:μ.le μ'):MapM sz f μ' Bv B:=MapS.imp h λ_ _ h=>h.mono b
theorem MapQ.mono {R:Rel α} {B:List (κ×List α)} (h:MapQ sz R μ Bv B) (c:R.Mono) (b:μ.le μ'):MapQ sz R μ' Bv B:=MapS.imp h λ_ _ h=>h.mono c b
end
section
variable {ν:Type} [DecidableEq κ] {e t:TypeId} {vf:ν->Value} {B:List (κ×ν)} {x:κ} {v d:ν}
theorem Wo (M':List (Nat×Value)) (i:Nat) (x:κ) (d:ν) (f:KeyOk P kt kf) (s:Fr N ds M a) (y:St w0 H w) (hi:H[i]? = some (A0 kf vf m B)) (c:As ops N=true) (hs:EffM ops k M (Instr.lookup t (.map (some m)) (kf x) true)) (g:Ub P t kt e=true)
  (hz:(P.info? e).bind (·.zero)=some (vf d)) (z:NextM ops k M (.tuple #[vf ((lkM B x).getD d),.bool (lkM B x).isSome]) M') (next:∀a',Fr N ds M' a'->K a' w):SK P r ops k K a w:=by
 obtain ⟨es,clock,h1,h2,h3⟩:=y.res hi;refine A5a s c hs ?_ z next
 obtain ⟨q,q1,q2,q3,q4⟩:=Xr f x h2;have l:=q1 w;have n:=Bd _ _ (f.ck es.isEmpty x) w;have o:=MapKept.run_getObj_map (P:=P) h1
 cases b:P.info? e with
 | none=>rw [b] at hz;simp at hz
 | some inf =>
  rw [b] at hz;simp at hz
  cases q with
  | some p =>
   obtain ⟨v,e1,e2⟩:=q3 p rfl;obtain ⟨j,u⟩:=p;have e2:u=vf v:=e2;subst e2;rw [e1];simp [Instr.lookup,run_underlying (Kl g),o,n,l,zeroValue,typeInfo,b,hz]
  | none =>
   have e1:=q4 rfl;simp [Instr.lookup,run_underlying (Kl g),o,n,l,e1,zeroValue,typeInfo,b,hz]
theorem A8x (M':Value->List (Nat×Value)) (i:Nat) (x:κ) {S:Value->List α->Prop} {B:List (κ×List α)} (f:KeyOk P kt kf) (g:MapS S Bv B) (j:S (.slice none 0 0) []) (l:Fr N ds M a) (n:St w0 H w) (hi:H[i]? = some (A0 kf (λv=>v) m Bv)) (b:As ops N=true)
  (hs:EffM ops k M (Instr.lookup t (.map (some m)) (kf x) true)) (o:Ub P t kt e=true) (hz:(P.info? e).bind (·.zero)=some (.slice none 0 0)) (p:∀v,NextM ops k M (.tuple #[v,.bool (lkM B x).isSome]) (M' v))
  (next:∀v a',Fr N ds (M' v) a'->S v ((lkM B x).getD [])->K a' w):SK P r ops k K a w:=by
 have q:=g.lk x;have key:(lkM Bv x).isSome=(lkM B x).isSome/\S ((lkM Bv x).getD (.slice none 0 0)) ((lkM B x).getD []):=by
  rcases q with ⟨h1,c⟩|⟨v,y,h1,c,s⟩
  ·rw [h1,c];exact ⟨rfl,j⟩
  ·rw [h1,c];exact ⟨rfl,s⟩
 refine Wo (e:=e) (M' ((lkM Bv x).getD (.slice none 0 0))) i x (.slice none 0 0) f l n hi b hs o hz ?_ λa' d=>next _ a' d key.2
 rw [key.1];exact p _
theorem Po (M':Value->List (Nat×Value)) (i:Nat) (x:κ) {S:Value->List α->Prop} {B:List (κ×List α)} (f:KeyOk P kt kf) (g:MapS S Bv B) (j:S (.slice none 0 0) []) (l:Fr N ds M a) (n:St w0 H w) (hi:H[i]? = some (A0 kf (λv=>v) m Bv)) (b:As ops N=true)
  (hs:EffM ops k M (Instr.lookup t (.map (some m)) (kf x) false)) (o:Ub P t kt e=true) (hz:(P.info? e).bind (·.zero)=some (.slice none 0 0)) (p:∀v,NextM ops k M v (M' v))
  (next:∀v a',Fr N ds (M' v) a'->S v ((lkM B x).getD [])->K a' w):SK P r ops k K a w:=by
 have q:=g.lk x;have key:S ((lkM Bv x).getD (.slice none 0 0)) ((lkM B x).getD []):=by
  rcases q with ⟨h1,c⟩|⟨v,y,h1,c,s⟩
  ·rw [h1,c];exact j
  ·rw [h1,c];exact s
 exact S1 (e:=e) (M' ((lkM Bv x).getD (.slice none 0 0))) i x (.slice none 0 0) f l n hi b hs o hz (p _) λa' d=>next _ a' d key
end
def obSem (ρ:Operand->Value):Op->Option (Sem Value)
 | .binOp .shr t x y _=>some (binOp .shr t (ρ x) (ρ y))
 | .binOp .shl t x y _=>some (binOp .shl t (ρ x) (ρ y))
 | o=>Vj ρ o
theorem A6v {s:Sem Value} (h:obSem ρ o.op=some s) (c:s.run P w=.ok v w):(execOp ρ o).run P w=.ok (.value v) w:=by
 unfold obSem at h
 split at h
 ·rename_i t x y z b
  unfold execOp;rw [b]
  cases h
  simp [c,eqGuard]
 ·rename_i t x y z b
  unfold execOp;rw [b]
  cases h
  simp [c,eqGuard]
 ·exact (X4 h c).2
structure ObAt (ops:Array Oper) (k:Nat) (M:List (Nat×Value)) (s:Sem Value):Prop where
 eq:((plainAt ops k M).bind λo=>obSem (rhoE (ofM M)) o.op)=some s
section
variable {s:Sem Value}
theorem obK (M':List (Nat×Value)) (d:Fr N ds M a) (b:As ops N=true) (hs:ObAt ops k M s) (ho:Ob.ok P T (λw'=>w'=w) (.run [] s v)) (e:NextM ops k M v M') (next:∀a',Fr N ds M' a'->K a' w):SK P r ops k K a w:=by
 have hs:=hs.eq
 cases c:plainAt ops k M with
 | none=>rw [c] at hs;simp at hs
 | some o =>
  rw [c] at hs;exact A4j d b c (A6v hs (ho rfl w rfl)) e next
end
section
variable {cs:List Cd} {f:α->Value} {x:Z8 α n} {i:Int}
end
def TabM (P:Program) (name:String) (k:IntKind) (zs:List Int) (μ:Frz):Prop:=∀w,FrzAt μ w->Lib.TabIs P w name k zs
theorem TabM.mono {name:String} {k:IntKind} {zs:List Int} (h:TabM P name k zs μ) (b:μ.le ν):TabM P name k zs ν:=λw c=>h w (c.low b)
theorem B4p (h1:∀em x,pureSem P (Instr.checkKey em 10000 kt (Value.string x))=some ()) (b:pureSem P (underlying kt)=some .string):KeyOk P kt Value.string:=by
 refine KeyNow.ok ⟨h1,λx=>?_,λx y=>?_,by rw [b];rfl⟩
 ·unfold Instr.sameBits;exact (MapKept.bytes_beq x x).2 rfl
 ·rw [b];show some (x==y)=some (decide (x=y))
  congr 1
  rw [Bool.eq_iff_iff,MapKept.bytes_beq,decide_eq_true_iff]
section
variable (w:World)
end
section
variable {F:Fence}
end
def elP (ad:Option Addr) (x:Int) (sz:Nat):Option Addr:=if x<0 then none else some (Bb ad x sz)
theorem A5c (h:decide (x<0)=true):elP ad x sz=none:=if_pos (of_decide_eq_true h)
theorem A5d (h:decide (x<0)=false):elP ad x sz=some (Bb ad x sz):=if_neg (of_decide_eq_false h)
theorem A10 (h:Cj l x=some u):elP ad x sz=some (Bb ad x sz):=by
 unfold Cj at h
 by_cases c:0<=x
 ·exact if_neg (by omega)
 ·rw [if_neg c] at h;cases h
def Wt (a b:ByteArray):Bool:=Op.bytesLess a.toList b.toList
def Vy (a b:ByteArray):Bool:=!(Op.bytesLess a.toList b.toList||a.toList==b.toList)
def A9s (k:IntKind) (x y:Int):Option Int:=if 0<=y then some (k.wrap (x*2 ^ min y.toNat k.bits)) else none
theorem B3t {cs:List Cd} {t:TypeId} {k yk:IntKind} {z:Int} (b:Bc cs=true->A9s k x y=some z):Ob.ok P T D (.run cs (binOp .shl t (.int k x) (.int yk y)) (.int k z)):=by
 intro c w _;have h:=b c;unfold A9s at h
 split at h
 ·rename_i d
  cases h
  have h1:¬y<0:=by omega
  simp [binOp,Op.shift,h1]
 ·cases h
open Go.ChangeMaps (setBlock)
set_option linter.unusedVariables false
def Uu {κ ν:Type} (kf:κ->Value) (vf:ν->Value) (m:Nat) (B:List (κ×ν)) (bs:List Nat) (c:Nat):Res where
 foot:=λk=>k=m
 holds:=λw=>∃es:List MapEntry,w.heap[m]? = some (.map es.toArray c)/\Y9 kf vf es B/\es.map (·.born)=bs/\(∀b∈bs,b<c)/\bs.Nodup
 loc:=λw w' h hb=>by
  obtain ⟨es,h1,h2⟩:=hb;exact ⟨es,(h m rfl).trans h1,h2⟩
 lt:=λw k hb hk=>by
  subst hk;obtain ⟨es,h1,_⟩:=hb;exact (Array.getElem?_eq_some_iff.1 h1).1
section
variable {ν:Type} {vf:ν->Value} {i:Nat} {B:List (κ×ν)} {bs:List Nat} {c:Nat}
theorem St.mapOpen (h:St w0 H w) (hi:H[i]? = some (A0 kf vf m B)):∃bs c,bs.length=B.length/\(∀b∈bs,b<c)/\bs.Nodup/\St w0 (H.set i (Uu kf vf m B bs c)) w:=by
 obtain ⟨es,c,h1,d,g,j⟩:=h.res hi;have hb:∀b∈es.map (·.born),b<c:=λb hb=>by
  obtain ⟨e,he,rfl⟩:=List.mem_map.1 hb;exact g e he
 have f:(es.map (·.born)).Nodup:=List.pairwise_map.2 j;refine ⟨es.map (·.born),c,by rw [List.length_map,d.len],hb,f,h.upd hi rfl rfl rfl (Nat.le_refl _) (λ_ _ _=>rfl) ⟨es,h1,d,rfl,hb,f⟩ (λk l=>.inl l)⟩
theorem St.mapShut (h:St w0 H w) (hi:H[i]? = some (Uu kf vf m B bs c)):St w0 (H.set i (A0 kf vf m B)) w:=by
 obtain ⟨es,h1,b,rfl,d,f⟩:=h.res hi;exact h.upd hi rfl rfl rfl (Nat.le_refl _) (λ_ _ _=>rfl) ⟨es,c,h1,b,λe he=>d _ (List.mem_map.2 ⟨e,he,rfl⟩),List.pairwise_map.1 f⟩ (λk g=>.inl g)
end
def effSemN (ρ:Operand->Value) (op:Op) (ty:TypeId):Option (Sem Value) :=
 match op with
 | .range t x=>some (Instr.range t (ρ x))
 | .next it s=>some (Instr.next (ρ it) s ty)
 | .entry it=>some (Instr.entry (ρ it))
 | _=>none
theorem A27 {s:Sem Value} (h:effSemN ρ o.op o.type=some s) (c:s.run P w=.ok v w'):(execOp ρ o).run P w=.ok (.value v) w':=by
 unfold effSemN at h;unfold execOp
 split at h<;>rename_i b<;>simp only [Option.some.injEq,reduceCtorEq] at h<;>(try subst h)<;>rw [b]<;>simp [c]
structure EffN (ops:Array Oper) (k:Nat) (M:List (Nat×Value)) (s:Sem Value):Prop where
 eq:((plainAt ops k M).bind λo=>effSemN (rhoE (ofM M)) o.op o.type)=some s
section
variable {ν:Type} [DecidableEq κ] {e t:TypeId} {vf:ν->Value} {B:List (κ×ν)} {bs:List Nat} {c:Nat}
theorem A5b {s:Sem Value} (c:Fr N ds M a) (b:As ops N=true) (hs:EffN ops k M s) (d:s.run P w=.ok v w')
  (e:NextM ops k M v M') (next:∀a',Fr N ds M' a'->K a' w'):SK P r ops k K a w:=by
 have hs:=hs.eq
 cases ho:plainAt ops k M with
 | none=>rw [ho] at hs;simp at hs
 | some o =>
  rw [ho] at hs;exact A4j c b ho (A27 hs d) e next
def itR (r m since:Nat) (seen:List Nat) (c0:Nat):Res:=Dl r (.mapIter (some m) since seen.toArray c0)
theorem A9k {M':Nat->List (Nat×Value)} (i:Nat) (j:Fr N ds M a) (g:St w0 H w) (hi:H[i]? = some (Uu kf vf m B bs c)) (d:As ops N=true) (hs:EffN ops k M (Instr.range t (.map (some m)))) (l:Ub P t kt e=true)
  (n:∀b,NextM ops k M (.pointer (some ⟨b,0,none⟩)) (M' b)) (next:∀b w' a',Fr N ds (M' b) a'->St w0 (itR b m c [] c::H) w'->K a' w'):SK P r ops k K a w:=by
 obtain ⟨es,h1,o,p,q,s⟩:=g.res hi;exact A5b j d hs (run_range_map w t kt e m es.toArray c (Kl l) h1) (n _) λa' f=>next _ _ a' f (g.allocObj _)
theorem B2p {M0:List (Nat×Value)} {M1:κ->ν->List (Nat×Value)} (i j:Nat) {q since c0:Nat} {seen:List Nat} (hF:Fr N ds M a) (t:St w0 H w) (hi:H[i]? = some (itR q m since seen c0)) (hj:H[j]? = some (Uu kf vf m B bs c)) (e:As ops N=true) {ty:TypeId}
  (hs:EffN ops k M (Instr.next (.pointer (some ⟨q,0,none⟩)) false ty)) (l:∀b∈bs,b<since) (u:since<=c0) (v:NextM ops k M (.tuple #[.bool false]) M0) (z:∀x y,NextM ops k M (.tuple #[.bool true,kf x,vf y]) (M1 x y))
  (over:(∀b∈bs,b∈seen)->∀a',Fr N ds M0 a'->K a' w)
  (more:∀(n:Nat) (p:κ×ν) (b:Nat),B[n]? = some p->bs[n]? = some b->b∉seen->∀w' a',Fr N ds (M1 p.1 p.2) a'->St w0 (H.set i (itR q m since (seen++[b]) c)) w'->K a' w'):SK P r ops k K a w:=by
 obtain ⟨es,h1,h2,h3,h4,h5⟩:=t.res hj;have hr:w.heap[q]? = some (.mapIter (some m) since seen.toArray c0):=t.res hi;have b1:∀x∈es.toArray.toList,x.born<since:=λx hx=>l _ (by rw [←h3];exact List.mem_map.2 ⟨x,by simpa using hx,rfl⟩);rcases run_next_at (P:=P) w ty q m since c0 seen.toArray es.toArray c hr h1 b1 u with ⟨hz,d⟩|⟨en,f,w1,b3,d⟩
 ·refine A5b hF e hs d v λa' g=>over ?_ a' g;intro b hb;rw [←h3] at hb;obtain ⟨x,hx,rfl⟩:=List.mem_map.1 hb;refine Classical.byContradiction λhc=>?_;have:x∈(leftOf es.toArray seen.toArray).toList:=by
   unfold leftOf;simp only [Array.toList_filter,List.mem_filter];exact ⟨by simpa using hx,by simpa using hc⟩
  have h0:(leftOf es.toArray seen.toArray).toList=[]:=by
   have:=Array.eq_empty_of_size_eq_zero hz;rw [this]
  rw [h0] at this
  cases this
 ·unfold leftOf at f;simp only [Array.toList_filter,List.mem_filter] at f;obtain ⟨hm,b4⟩:=f;obtain ⟨n,hn⟩:=List.mem_iff_getElem?.1 hm;have hb:bs[n]? = some en.born:=by rw [←h3,List.getElem?_map,hn];rfl
  have b6:n<B.length:=by rw [←h2.len];exact (List.getElem?_eq_some_iff.1 hn).1
  obtain ⟨p,hp⟩:∃p,B[n]? = some p:=⟨B[n],List.getElem?_eq_getElem b6⟩;obtain ⟨e',o,hk,hv⟩:=Xp h2 hp;have:e'=en:=by
   have h6:es[n]? = some en:=hn;rw [h6] at o;exact (Option.some.inj o).symm
  subst this;rw [hk,hv] at d;have b7:St w0 H w1:=by
   rcases b3 with rfl|rfl
   ·exact t
   ·exact t.later (Sz w)
  have s:(seen.toArray.push e'.born)=(seen++[e'.born]).toArray:=by simp
  rw [s] at d;refine A5b hF e hs d (z p.1 p.2) λa' g=>more n p _ hp hb (by simpa using b4) _ a' g ?_;have:=b7.putObj (i:=i) (.mapIter (some m) since (seen++[e'.born]).toArray c) hi;exact this
theorem A8c (i j:Nat) {q since:Nat} {seen:List Nat} {p:κ×ν} (u:Fr N ds M a) (o:St w0 H w) (hi:H[i]? = some (itR q m since (seen++[b]) c)) (hj:H[j]? = some (Uu kf vf m B bs c)) (f:As ops N=true)
  (hs:EffN ops k M (Instr.entry (.pointer (some ⟨q,0,none⟩)))) (v:B[n]? = some p) (hb:bs[n]? = some b) (x:NextM ops k M (.tuple #[kf p.1,vf p.2]) M') (next:∀a',Fr N ds M' a'->K a' w):SK P r ops k K a w:=by
 obtain ⟨es,h1,y,s,h4,z⟩:=o.res hj;have t:w.heap[q]? = some (.mapIter (some m) since (seen++[b]).toArray c):=o.res hi;obtain ⟨e,he,hk,hv⟩:=Xp y v;have l:e.born=b:=by
  rw [←s,List.getElem?_map,he] at hb;exact Option.some.inj hb
 have g:(seen++[b]).toArray=seen.toArray.push e.born:=by rw [l];simp
 rw [g] at t;have d:=run_entry_at (P:=P) w q m since seen.toArray es.toArray c e t h1 (by simpa using List.mem_of_getElem? he) (by simpa using (s▸z));rw [hk,hv] at d;exact A5b u f hs d x next
theorem B5e (M':List (Nat×Value)) (i:Nat) (x:κ) {ty tx:TypeId} (y:KeyOk P kt kf) (hF:Fr N ds M a) (z:St w0 H w) (hi:H[i]? = some (Uu kf vf m B bs c)) (f:ixM B x=some n) (d:As ops N=true) (hs:EffM ops k M (Builtin.delete_ #[t,tx] ty #[.map (some m),kf x])) (ht:Ub P t kt e=true)
  (hM:NextM ops k M (.tuple #[]) M') (next:∀w' a',Fr N ds M' a'->St w0 (H.set i (Uu kf vf m (B.eraseIdx n) (bs.eraseIdx n) c)) w'->K a' w'):SK P r ops k K a w:=by
 obtain ⟨es,h1,g,l,h4,h5⟩:=z.res hi;have b6:Stp es c:=⟨λe he=>h4 _ (by rw [←l];exact List.mem_map.2 ⟨e,he,rfl⟩),List.pairwise_map.1 (by rw [l];exact h5)⟩;have g1:(Builtin.delete_ #[t,tx] ty #[.map (some m),kf x]).run P w=.ok (.tuple #[]) (w.putObj m (.map (es.eraseIdx n).toArray c)):=by
  obtain ⟨q,q1,q2,q3,q4⟩:=Xr y x g;have hq:=q1 w;have hc:=Bd _ _ (y.ck es.isEmpty x) w;have hg:=MapKept.run_getObj_map (P:=P) h1
  cases q with
  | none =>
   have hj:ixM B x=none:=q2.symm;rw [hj] at f;cases f
  | some p =>
   obtain ⟨j,u⟩:=p;have hj:ixM B x=some j:=q2.symm;rw [hj] at f
   cases f
   obtain ⟨o,p,hp,c0,c1⟩:=A5p hj;have b2:n<es.length:=by rw [All2.len g];exact o
   have s:=B4l (P:=P) (.map (es.eraseIdx n).toArray c) h1;simp [Builtin.delete_,run_underlying (Kl ht),hg,hc,hq,s]
 refine A5a hF d hs g1 hM λa' v=>next _ a' v ?_
 refine z.putMap hi h1 (λ_=>Iff.rfl) ?_ λ_ h=>h;refine ⟨es.eraseIdx n,World.putObj_heap_same (Array.getElem?_eq_some_iff.1 h1).1,?_,?_,?_,?_⟩
 ·exact A3n g n
 ·rw [←l];exact ChangeMaps.map_eraseIdx _ es n
 ·intro b hb;exact h4 b (List.mem_of_mem_eraseIdx hb)
 ·exact h5.sublist (List.eraseIdx_sublist ..)
end
section
theorem B6j (m:Nat) (M':List (Nat×En)) (e:P.follows .mixedOrders=true) (f:Fr N ds M a) (b:(As ops N&&P9 ops m&&K9 ops m&&Fy ops&&Nat.ble m ops.size)=true) (g:Obs P Ext (Ext w) obs)
  (h:EndsC P ops m 0 M M' obs) (l:(M'.all λp=>Bc p.2.conds)=true) (next:∀a' w',Fr N ds (M'.map λp=>(p.1,p.2.v)) a'->Ext w w'->WI P r ops Q m a' w'):WP P r (.region id ops true) Q a w:=by
 rw [Bool.and_eq_true,Bool.and_eq_true,Bool.and_eq_true,Bool.and_eq_true] at b;obtain ⟨⟨⟨⟨h1,n⟩,o⟩,q⟩,s⟩:=b;have i:=Sz w;obtain ⟨Φ,t,c,j,d⟩:=Y8 (r:=r) (N:=N) (ds:=ds) U0 h l (Ext w) g;refine Uy (λ_ _ h k=>Ext.trans h k) e h1 n o q t (Nat.le_of_ble_eq_true s) c j (Q6 _ _) f.size (M6 f _) i ?_;intro a' w' u x hd y;exact next a' w' (d a' w' x (hd.trans f.defers) y) u
end
def mk0 (B:Nat) (n:Int):Option Nat:=if 0<=n/\B*n.toNat<=281474976710656/\n<=9223372036854775807 then some n.toNat else none
theorem A8z {B c:Nat} {n:Int} (h:mk0 B n=some c):n=(c:Int)/\B*c<=281474976710656/\c<=maxLen:=by
 unfold mk0 at h
 split at h
 ·rename_i b
  cases h
  refine ⟨by omega,b.2.1,?_⟩;simp [maxLen];omega
 ·cases h
section
variable {e:Nat}
theorem B3h (f:α->List Value) (M':Nat->List (Nat×Value)) {t c:Nat} {n:Int} {z:Value} (u:Fr N ds M a) (v:St w0 H w) (d:As ops N=true) (hs:EffAt ops k M (Instr.makeSlice t (.int .i64 0) (.int .i64 n)))
  (m:Jl P t e sz bytes=true) (hz:(P.info? e).bind (·.zero)=some z) (o:mk0 bytes n=some c) (x:∀b,NextM ops k M (.slice (some ⟨b,0,none⟩) 0 c) (M' b))
  (next:∀b w' a',Fr N ds (M' b) a'->St w0 (arr e sz f (some ⟨b,0,none⟩) 0 c ([]:List α)::H) w'->K a' w'):SK P r ops k K a w:=by
 obtain ⟨rfl,hb,p⟩:=A8z o;obtain ⟨i,z',y,hi,q,h1,rfl,b0,_⟩:=G0 m;obtain ⟨w',hr,g,l⟩:=run_make_own (P:=P) w 0 t e i z' sz y hi q h1 .i64 .i64 c hb p (Nat.zero_le _);have hx:Ext w w':=⟨l.os,l.tape,l.output,l.size,λj hj=>l.block j hj (by simp)⟩;refine Y7 u d hs hr (x w.heap.size) ?_;intro a' s;exact next _ w' a' s (v.push hx ⟨rfl,g⟩ (λb hb=>by simp [Go.Eng.arr,Value.ownBlock] at hb;omega))
end
section
theorem B6k (m:Nat) (M':List (Nat×Value)) (f:P.follows .mixedOrders=true) (g:Fr N ds M a) (c:(As ops N&&P9 ops m&&K9 ops m&&Fy ops&&Nat.ble m ops.size)=true)
  (i:Obs P (λa b=>b=a) (λx=>x={ w with drawn:=w.drawn+1 }) obs)
  (h:Ends P ops m 0 M M' obs) (next:∀a',Fr N ds M' a'->WI P r ops Q m a' { w with drawn:=w.drawn+1 }):WP P r (.region id ops true) Q a w:=by
 rw [Bool.and_eq_true,Bool.and_eq_true,Bool.and_eq_true,Bool.and_eq_true] at c;obtain ⟨⟨⟨⟨h1,l⟩,n⟩,o⟩,p⟩:=c;obtain ⟨Φ,q,d,j,e⟩:=Tl (r:=r) (N:=N) (ds:=ds) Rg h (λx=>x={ w with drawn:=w.drawn+1 }) i;refine Uy (D:=λx=>x={ w with drawn:=w.drawn+1 }) (λ_ _ h k=>k.trans h) f h1 l n o q (Nat.le_of_ble_eq_true p) d j (Q6 _ _) g.size (M6 g _) rfl ?_;intro a' w' s t hd u;subst s;exact next a' (e a' _ t (hd.trans g.defers) u)
end
theorem A4y (b:∀x,(f x).length=sz) (d:0<sz) (z:α) (n:Nat):(Builtin.zeroCells (f z).toArray n).toList=(List.replicate n z).flatMap f:=by
 have e:((List.replicate n z).flatMap f).length=n*sz:=by rw [Ft b];simp
 apply List.ext_getElem?;intro q;unfold Builtin.zeroCells
 by_cases g:q<n*sz
 ·have hi:q/sz<n:=Nat.div_lt_of_lt_mul (by rwa [Nat.mul_comm]);have i:(List.replicate n z)[q/sz]? = some z:=by rw [List.getElem?_replicate,if_pos hi]
  have c:q%sz<sz:=Nat.mod_lt _ d;have h:=R4 b (List.replicate n z) (q/sz) (q%sz) z i c;rw [Nat.div_add_mod'] at h;rw [h];have j:(f z)[q%sz]? = some ((f z)[q%sz]'(by rw [b];exact c)):=List.getElem?_eq_getElem _;rw [j];simp [b,g,c]
 ·rw [List.getElem?_eq_none (l:=(List.replicate n z).flatMap f) (show ((List.replicate n z).flatMap f).length<=q by rw [e];omega)];exact List.getElem?_eq_none (by simp [b];omega)
section
variable {e:Nat}
end
def effSemP (ρ:Operand->Value) (op:Op) (ty:TypeId):Option (Sem Value) :=
 match op with
 | .call { callee:=.builtin .copy,args,argTypes }=>some (Builtin.copy_ argTypes ty (args.map ρ))
 | _=>none
theorem A28 {s:Sem Value} (h:effSemP ρ o.op o.type=some s) (c:s.run P w=.ok v w'):(execOp ρ o).run P w=.ok (.value v) w':=by
 unfold effSemP at h;unfold execOp
 split at h<;>rename_i b<;>simp only [Option.some.injEq,reduceCtorEq] at h<;>(try subst h)<;>rw [b]<;>simp [c,resolve,invoke,builtin]
structure EffP (ops:Array Oper) (k:Nat) (M:List (Nat×Value)) (s:Sem Value):Prop where
 eq:((plainAt ops k M).bind λo=>effSemP (rhoE (ofM M)) o.op o.type)=some s
structure OvAt (ops:Array Oper) (k:Nat) (M:List (Nat×Value)) (fid:FuncId) (x y:Value):Prop where
 eq:((plainAt ops k M).bind λo=>match o.op with|.call { callee:=.value g,args,.. }=>some (rhoE (ofM M) g,args.map (rhoE (ofM M)))|_=>none)=some (.func (.func fid) #[] #[],#[x,y])
theorem A6y (w:World) (tS tR e:TypeId) (o:P.underlying tS=some (.slice e)) (size:Nat) (hz:∀w,(Go.sizeOf e).run P w=.ok size w)
  (a b:Addr) (la ca lb cb:Nat) (c:a.block≠b.block) (tA tB:TypeId) (kA:Nat) (cur:Array Value) (g:w.shape? a.block=some (tA,kA+1)) (hb:w.heap[b.block]? = some (.cells cur tB (0,0))) (r:cur.size≠0) :
  (Extern.SlicesOverlaps.overlaps #[tS,tS] #[tR] #[.slice (some a) la ca,.slice (some b) lb cb]).run P w=.ok (.bool false) w:=by
 have i:(a.block != b.block)=true:=by simpa using c
 have d:(a.block==b.block)=false:=by simpa using c
 have f:w.shape? b.block=some (tB,cur.size):=by unfold World.shape?;rw [hb]
 have j:w.frozen? b=false:=by unfold World.frozen?;rw [hb];simp
 have k:∀n,w.frozen? { block:=b.block,off:=n }=false:=λn=>by unfold World.frozen?;simp only;rw [hb];simp
 change Sem.run P (α:=Value) (do
  let some t:=(#[tS,tS]:Array TypeId)[0]?|stuck "slices.overlaps: no parameter types"
  let .slice elem ←underlying t|stuck "slices.overlaps: slice type expected"
  let size ←sizeOf elem
  match (some a:Option Addr),(some b:Option Addr) with
  | some a,some b =>
   if la=0\/lb=0\/size=0 then pure (Value.bool false)
   else if a.block != b.block&&(←frozen a)&&(←frozen b) then unsupported .addressObserved
   else do
    if a.block != b.block then do
     noView a;noView b
     if ←mayBeOne a b then return Value.bool ((←choose (.extern "sameAddr.stringBytes" 2))==1)
    pure (Value.bool (a.block==b.block&&a.off<b.off+lb*size&&b.off<a.off+la*size))
  | _,_=>pure (Value.bool false)) w=_
 by_cases p:la=0\/lb=0\/size=0
 ·simp [run_underlying o,hz,p]
 ·obtain ⟨n,q⟩:∃n,cur.size=n+1:=⟨cur.size-1,by omega⟩;rw [q] at f
  cases l:w.frozen? a<;>cases m:w.frozen? { block:=a.block,off:=kA+1 } <;>
   simp [run_underlying o,hz,p,i,d,frozen,noView,viewAt,mayBeOne,stringish,shape,Sem.run,g,f,l,m,j,k]
section
variable {e:Nat}
theorem St.frz_none {i:Nat} {R:Res} (f:St w0 H w) (hi:H[i]? = some (Eo w0.heap.size μ)) (hj:H[j]? = some R) (k:i≠j) (l:R.foot g):μ g=none:=by
 cases h:μ g with
 | none=>rfl
 | some o =>
  have c:=f.low R (List.mem_of_getElem? hj) g l;have b:(Eo w0.heap.size μ).foot g:=⟨c,o,h⟩;obtain ⟨d,ei⟩:=List.getElem?_eq_some_iff.1 hi;obtain ⟨e,ej⟩:=List.getElem?_eq_some_iff.1 hj;rcases Nat.lt_or_gt_of_ne k with m|n
  ·have:=List.pairwise_iff_getElem.1 f.apart i j d e m;rw [ei,ej] at this;exact absurd l (this g b)
  ·have:=List.pairwise_iff_getElem.1 f.apart j i e d n;rw [ei,ej] at this;exact absurd b (this g l)
theorem A3p {p:Addr} (h:∀w,FrzAt μ w->Arr w sz f (some p) n cap l) (k:∀x,(f x).length=sz) (m:FrzAt μ w) (y:0<n) (hs:0<sz) (s:μ g=none):p.block≠g:=by
 rintro rfl;have d:FrzAt μ { w with heap:=w.heap.setIfInBounds p.block (.cells #[] 0) }:=by
  intro b o hb;have:b≠p.block:=λe=>by rw [e,s] at hb;cases hb
  simp only [Array.getElem?_setIfInBounds];rw [if_neg (λe=>this e.symm)];exact m b o hb
 obtain ⟨r,_⟩:=h w m;have j:l≠[]:=λe=>by rw [e] at r;simp at r;omega
 obtain ⟨x,l',rfl⟩:=List.exists_cons_of_ne_nil j;obtain ⟨q,t,u⟩:=(h _ d).cells k (i:=0) (by omega) (by omega) x
 cases t
 have v:(f x)[0]? = some ((f x)[0]'(by rw [k];exact hs)):=List.getElem?_eq_getElem _;have h1:=u 0 _ v;unfold Bb World.cell? at h1;have hb:((((some p:Option Addr).getD default).add (Int.toNat 0*sz)).add 0).block=p.block:=by
  simp [Addr.add]
 rw [hb] at h1;simp only [Array.getElem?_setIfInBounds] at h1
 by_cases c:p.block<w.heap.size
 ·simp [c] at h1
 ·simp [c] at h1
theorem B5f {s:Sem Value} (c:Fr N ds M a) (b:As ops N=true) (hs:EffP ops k M s) (d:s.run P w=.ok v w')
  (e:NextM ops k M v M') (next:∀a',Fr N ds M' a'->K a' w'):SK P r ops k K a w:=by
 have hs:=hs.eq
 cases ho:plainAt ops k M with
 | none=>rw [ho] at hs;simp at hs
 | some o =>
  rw [ho] at hs;exact A4j c b ho (A28 hs d) e next
theorem ovK {fid tS tR:Nat} {p b:Addr} {la ca lb cb size kA:Nat} {tA tB:TypeId} {cur:Array Value} (q:Fr N ds M a) (f:As ops N=true) (hs:OvAt ops k M fid (.slice (some p) la ca) (.slice (some b) lb cb))
  (s:P.funcs[fid]? = some fn) (d:(fn.name == "runtime.NumGoroutine")=false) (i:fn.body.isNone=true) (t:Extern.findNext fn=none) (he:Extern.find fn=some (Extern.SlicesOverlaps.overlaps #[tS,tS] #[tR]))
  (u:P.underlying tS=some (.slice e)) (hz:∀w,(Go.sizeOf e).run P w=.ok size w) (j:p.block≠b.block) (l:w.shape? p.block=some (tA,kA+1)) (hb:w.heap[b.block]? = some (.cells cur tB (0,0))) (v:cur.size≠0)
  (x:NextM ops k M (.bool false) M') (next:∀a',Fr N ds M' a'->K a' w):SK P r ops k K a w:=by
 have hs:=hs.eq
 cases ho:plainAt ops k M with
 | none=>rw [ho] at hs;simp at hs
 | some o =>
  rw [ho] at hs;simp only [Option.bind_some] at hs
  split at hs
  ·rename_i g args y m
   simp only [Option.some.injEq,Prod.mk.injEq] at hs;obtain ⟨h1,z⟩:=hs;refine A4j q f ho ?_ x next
   have n:=A6y (P:=P) w tS tR e u size hz p b la ca lb cb j tA tB kA cur l hb v;have c:=run_callFunc_extern s d i t he #[.slice (some p) la ca,.slice (some b) lb cb] w;rw [n] at c;unfold execOp;rw [m];simp [resolve,Deferred.ofValue,invoke,h1,z,c]
  ·cases hs
theorem T5 (h:(Go.Eng.arr e 1 (fN 1) ad n cap c).holds w) (m:0<n):∃g cur,ad=some ⟨g,0,none⟩/\w.heap[g]? = some (.cells cur e (0,0))/\n<=cap/\cap<=maxLen/\cur.size=cap*1/\cur.toList.take (n*1)=c.flatMap (fN 1)/\c.length=n:=by
 obtain ⟨j,o,k⟩:=h;rcases k with ⟨h',hz⟩|⟨g,cap',cur,h',_,l,d,f,i,b⟩
 ·omega
 ·simp only [Value.slice.injEq,true_and] at h';obtain ⟨rfl,rfl⟩:=h';exact ⟨g,cur,rfl,l,d,f,i,b,j⟩
theorem A75 {t t2 k0 dl dcap sl:Nat} {q:Addr} {X:List Value} {cur:Array Value} (l:w.heap[g]? = some (.cells cur e (0,0))) (f:Jl P t e 1 bytes=true) (r:k0+X.length<=cur.size) (m:X.length=Nat.min sl dl)
  (b:∀j v,X[j]? = some v->w.cell? (q.add j)=some v) (h1:∀v∈X,v.oneCell'=true) :
  (Builtin.copy_ #[t,t2] ty #[.slice (some ⟨g,k0,none⟩) dl dcap,.slice (some q) sl scap]).run P w=.ok (.int .i64 (X.length:Int)) (w.setRow g (cur.toList.take k0++X++cur.toList.drop (k0+X.length)).toArray):=by
 obtain ⟨inf,z,n,c,hz,i,hb,o,k⟩:=G0 f;have p:=run_loadCells_list (P:=P) w q X b;have d:=run_storeCells_at P g k0 e X 0 cur w l (by omega) h1;simp only [Nat.add_zero] at d;simp [Builtin.copy_,Builtin.lenOf,Builtin.firstCells,sizeOf,typeInfo,c,i,p,d,goInt,run_underlying n,←m]
theorem A59 (M':List (Nat×Value)) (i:Nat) {t t2 k0 dl dcap sl:Nat} {q:Addr} {l':List (List Value)} (hF:Fr N ds M a) (hS:St w0 H w) (hi:H[i]? = some (Go.Eng.arr e 1 (fN 1) (some ⟨g,0,none⟩) n cap c)) (s:As ops N=true)
  (hs:EffP ops k M (Builtin.copy_ #[t,t2] ty #[.slice (some ⟨g,k0,none⟩) dl dcap,.slice (some q) sl scap])) (u:Jl P t e 1 bytes=true) (h0:0<l'.length) (hk:k0+l'.length<=n) (hn:l'.length=Nat.min sl dl)
  (x:∀j v,(l'.flatMap (fN 1))[j]? = some v->w.cell? (q.add j)=some v) (h1:∀v∈l'.flatMap (fN 1),v.oneCell'=true) (hM:NextM ops k M (.int .i64 (l'.length:Int)) M')
  (next:∀w' a',Fr N ds M' a'->(∀b,b≠g->w'.heap[b]? = w.heap[b]?)->St w0 (H.set i (Go.Eng.arr e 1 (fN 1) (some ⟨g,0,none⟩) n cap (c.take k0++l'++c.drop (k0+l'.length)))) w'->K a' w'):SK P r ops k K a w:=by
 have y:=hS.holds _ (List.mem_of_getElem? hi);obtain ⟨g',cur,b0,hg,b1,b2,c5,m,c6⟩:=T5 y (by omega)
 cases b0
 obtain ⟨inf,z,ht,b9,hz,c7,hb,c8,c0⟩:=G0 u;have d:(l'.flatMap (fN 1)).length=l'.length:=by rw [Ft (C1 1),Nat.mul_one]
 have hr:=A75 (P:=P) (t2:=t2) (ty:=ty) (dl:=dl) (dcap:=dcap) (sl:=sl) (scap:=scap) (k0:=k0) hg u (by rw [d];omega) (by rw [d];exact hn) x h1;rw [d] at hr;refine B5f hF s hs hr hM λa' b3=>next _ a' b3 (λb hb=>setRow_other w g b _ hb) ?_
 have l:(c.take k0++l'++c.drop (k0+l'.length)).length=n:=by simp;omega
 have f:∀c':List (List Value),(c'.flatMap (fN 1)).length=c'.length:=λc'=>by rw [Ft (C1 1),Nat.mul_one]
 have b4:∀j,(c.take j).flatMap (fN 1)=(c.flatMap (fN 1)).take j:=λj=>by
  have e2:c.flatMap (fN 1)=(c.take j).flatMap (fN 1)++(c.drop j).flatMap (fN 1):=by rw [←List.flatMap_append,List.take_append_drop]
  by_cases hj:j<=c.length
  ·rw [e2,List.take_left' (by rw [f,List.length_take];omega)]
  ·rw [List.take_of_length_le (by omega),List.take_of_length_le (by rw [f];omega)]
 have b5:∀j,(c.drop j).flatMap (fN 1)=(c.flatMap (fN 1)).drop j:=λj=>by
  have e2:c.flatMap (fN 1)=(c.take j).flatMap (fN 1)++(c.drop j).flatMap (fN 1):=by rw [←List.flatMap_append,List.take_append_drop]
  by_cases hj:j<=c.length
  ·rw [e2,List.drop_left' (by rw [f,List.length_take];omega)]
  ·rw [List.drop_eq_nil_of_le (show c.length<=j by omega),List.drop_eq_nil_of_le (by rw [f];omega)];rfl
 refine hS.upd hi rfl rfl rfl (by simp [World.setRow]) (λq' _ hq=>setRow_other w g q' _ (λe=>hq (by simp [Go.Eng.arr,Value.ownBlock,e]))) ⟨l,?_,.inr ⟨g,cap,_,rfl,Nat.zero_le _,setRow_heap w g cur _ e _ hg,b1,b2,?_,?_⟩⟩ (λq' hq=>.inl hq)
 ·rw [f,l,Nat.mul_one]
 ·simp only [List.size_toArray,List.length_append,List.length_take,List.length_drop,Array.length_toList];omega
 ·have o:=Xa (cur:=cur.toList) (us:=l'.flatMap (fN 1)) (p:=k0) (T:=n*1) (by rw [d];omega) (by simp;omega);rw [m] at o;rw [List.flatMap_append,List.flatMap_append,b4,b5];rw [d] at o;exact o
theorem St.more {i:Nat} (r:St w0 H w) (hi:H[i]? = some (Go.Eng.arr e 1 (fN 1) (some ⟨g,0,none⟩) n cap c)) (s:0<n) (j:n<cap):∃z,St w0 (H.set i (Go.Eng.arr e 1 (fN 1) (some ⟨g,0,none⟩) (n+1) cap (c++[z]))) w:=by
 have d:=r.holds _ (List.mem_of_getElem? hi);obtain ⟨g',cur,k,t,u,l,m,b,f⟩:=T5 d s
 cases k
 have o:∀c':List (List Value),(c'.flatMap (fN 1)).length=c'.length:=λc'=>by rw [Ft (C1 1),Nat.mul_one]
 have p:n<cur.toList.length:=by simp;omega
 refine ⟨[cur.toList[n]],r.upd hi rfl rfl rfl (Nat.le_refl _) (λ_ _ _=>rfl) ⟨by simp [f],?_,.inr ⟨g,cap,cur,rfl,Nat.zero_le _,t,j,l,m,?_⟩⟩ (λq p=>.inl p)⟩
 ·rw [o];simp [f]
 ·rw [Nat.mul_one] at b ⊢;rw [List.take_succ_eq_append_getElem p,b,List.flatMap_append];simp [fN]
theorem B53 (M':Nat->Nat->List (Nat×Value)) (i:Nat) {t tn:Nat} {kq':IntKind} (z:List Value) {zv:Value} (hF:Fr N ds M a) (hS:St w0 H w) (hi:H[i]? = some (Go.Eng.arr e 1 (fN 1) (some ⟨g,0,none⟩) n cap c)) (b0:As ops N=true)
  (hs:EffAt ops k M (Builtin.append_ #[t,tn] ty #[.slice (some ⟨g,0,none⟩) j cap,.int kq' (m:Int)])) (b7:Jl P t e 1 bytes=true) (b8:P.underlying tn=some (.int .i64)) (b9:∀inf,P.info? e=some inf->inf.zero=some zv) (c0:zv.cells=#[zv]) (hj:j<=n) (hm:0<m) (hn:0<n) (b1:cap<j+m)
  (hb:(j+m)*bytes<=140737488355328) (d3:j+m<=9223372036854775807) (hM:∀b cap',NextM ops k M (.slice (some ⟨b,0,none⟩) (j+m) cap') (M' b cap'))
  (next:∀b cap' w' a',Fr N ds (M' b cap') a'->w.heap.size<=b->(∀x,x<w.heap.size->w'.heap[x]? = w.heap[x]?)->j+m<=cap'->cap'<=9223372036854775807->St w0 (Go.Eng.arr e 1 (fN 1) (some ⟨b,0,none⟩) (j+m) cap' (c.take j++List.replicate m [zv])::H) w'->K a' w'):SK P r ops k K a w:=by
 have l:=hS.holds _ (List.mem_of_getElem? hi);obtain ⟨g',cur,c1,hg,d5,d6,d7,c2,d8⟩:=T5 l hn
 cases c1
 obtain ⟨inf,z',ht,o,hz,c3,b2,e0,c9⟩:=G0 b7;have b3:=b9 inf o;rw [hz] at b3
 cases b3
 have d:∀c':List (List Value),(c'.flatMap (fN 1)).length=c'.length:=λc'=>by rw [Ft (C1 1),Nat.mul_one]
 have s:=World.ownsRow.cells l.2 (g:=g) rfl;have holds:∀q v,(c.flatMap (fN 1))[q]? = some v->w.drew.cell? ((⟨g,0,none⟩:Addr).add q)=some v:=λq v y=>s q v y;have c4:(c.take j).flatMap (fN 1)=(c.flatMap (fN 1)).take j:=by
  have e2:c.flatMap (fN 1)=(c.take j).flatMap (fN 1)++(c.drop j).flatMap (fN 1):=by rw [←List.flatMap_append,List.take_append_drop]
  rw [e2,List.take_left' (by rw [d,List.length_take];omega)]
 have u:(Builtin.firstCells inf.size j (.slice (some ⟨g,0,none⟩) j cap)).run P w.drew=.ok ((c.take j).flatMap (fN 1)).toArray w.drew:=by
  rw [c3];refine run_firstCells_some w.drew 1 j ⟨g,0,none⟩ j cap ((c.take j).flatMap (fN 1)) (by rw [d,List.length_take];omega) (λq v y=>?_);rw [c4,List.getElem?_take] at y
  split at y
  ·exact holds q v y
  ·cases y
 have b4:=Lib.run_append_grow_zeros (P:=P) w t tn ty e inf zv kq' .i64 ht b8 o hz (some ⟨g,0,none⟩) j cap ((c.take j).flatMap (fN 1)) u m hm (by omega) b1 (by omega) (by rw [b2];have:m*bytes<=(j+m)*bytes:=Nat.mul_le_mul_right _ (by omega);omega) (by rw [b2];exact growslice_fits b1 hb);have b5:=grownCap_ge w (j+m) cap e;have p:grownCap w (j+m) cap e<=maxLen:=grownCap_le_maxLen w (j+m) cap e (by unfold maxLen;omega);have hx:Ext w (w.drew.alloc (.cells (((c.take j).flatMap (fN 1)).toArray++Builtin.zeroCells zv.cells m++Builtin.zeroCells zv.cells (grownCap w (j+m) cap e-(j+m))) e)) :=
  ⟨rfl,rfl,rfl,by simp,λk hk=>by show (w.heap.push _)[k]? = _;rw [Array.getElem?_push,if_neg (Nat.ne_of_lt hk)]⟩
 have b6:∀q,(Builtin.zeroCells zv.cells q).toList=(List.replicate q [zv]).flatMap (fN 1):=λq=>by
  have:=A4y (f:=fN 1) (sz:=1) (C1 1) (by decide) [zv] q;rw [c0];exact this
 have c6:∀q,(Builtin.zeroCells zv.cells q).size=q:=λq=>by rw [←Array.length_toList,b6,d];simp
 refine Y7 hF b0 hs (b4) (hM _ _) λa' c7=>next _ _ _ a' c7 (Nat.le_refl _) (λx hx=>by show (w.heap.push _)[x]? = _;rw [Array.getElem?_push,if_neg (Nat.ne_of_lt hx)]) b5 (by unfold maxLen at p;omega) ?_
 refine hS.push hx ⟨by simp;omega,?_,.inr ⟨w.heap.size,_,_,rfl,Nat.zero_le _,heap_alloc_new w.drew _,b5,p,?_,?_⟩⟩ ?_
 ·rw [d];simp;omega
 ·simp only [Array.size_append,List.size_toArray,c6,d,List.length_take];omega
 ·simp only [Array.toList_append,List.append_assoc,b6];rw [←List.append_assoc,←List.flatMap_append,List.take_left'];rw [d];simp;omega
 ·intro b hb;simp [Go.Eng.arr,Value.ownBlock] at hb;omega
end
section
end
section
variable {B:List PanicEntry->World->Prop}
end
section
variable {B:List PanicEntry->World->Prop}
end
section
variable {M M':FM}
end
theorem St.pk (h:St w0 H w) (is:List Nat) (b:is.Nodup:=by decide):St w0 (is.filterMap λi=>H[i]?) w:=St.pick is b h
theorem St.fz (h:St w0 H w) (b:Ak w0 μ) (i:Nat) (hi:H[i]? = some (Eo w0.heap.size μ):=by exact rfl):FrzAt μ w:=h.frz hi b
theorem St.fm (h:St w0 H w) (b:Ak w0 μ) (i:Nat) (hi:H[i]? = some (Eo w0.heap.size μ):=by exact rfl):μ.le (Cv w):=h.frz hi b
theorem St.fd {w2:World} (h:St w0 H w) (hd:Ext w w2) (b:Ak w0 μ) (i:Nat) (hi:H[i]? = some (Eo w0.heap.size μ):=by exact rfl):μ.le (Cv w2):=(h.later hd).frz hi b
theorem St.fa {w2:World} (h:St w0 H w) (hd:w2=w) (b:Ak w0 μ) (i:Nat) (hi:H[i]? = some (Eo w0.heap.size μ):=by exact rfl):FrzAt μ w2:=(h.at_ hd).frz hi b
theorem Cw (i:Nat) (c:Fr N [] M a) (d:lookM M i=some v) (e:R (.returned v) w) (b:fn.results=#[.tmp i]:=by rfl):bodyPost P fn R .ret a w:=Bz [.tmp i] [v] c b ⟨d,trivial⟩ e
theorem WT.n1 (e:Nat) (h:SK P r ops e (λa' w'=>D w'/\WT P r ops D m eff K n (done++[e]) a' w') a w) (b:Ch ops m eff done=[]:=by kernel_rfl) (c:Vq ops eff done=[e]:=by kernel_rfl):WT P r ops D m eff K (n+1) done a w:=WT.s [] [e] b c (all_cons h Av)
theorem WT.n0 (h:K a w) (b:Ch ops m eff done=[]:=by kernel_rfl):WT P r ops D m eff K 0 done a w:=WT.z [] b h
class RM {α:Type} (R:Rel α):Prop where m:R.Mono
class Mo (μ ν:Frz) (A:Prop) (B:outParam Prop):Prop where m:μ.le ν->A->B
instance {μ ν:Frz} {α:Type} {sz:Nat} {f:α->List Value} {ad:Option Addr} {cap:Nat} {l:List α}:Mo μ ν (ArrM μ sz f ad cap l) (ArrM ν sz f ad cap l):=⟨λh a=>a.mono h⟩
instance {μ ν:Frz} {α:Type} {sz:Nat} {R:Rel α} [RM R] {ad:Option Addr} {cap:Nat} {css:List (List Value)} {l:List α}:Mo μ ν (ArrQ μ sz R ad cap css l) (ArrQ ν sz R ad cap css l):=⟨λh a=>a.mono RM.m h⟩
instance {μ ν:Frz} {α:Type} {R:Rel α} [RM R] {css:List (List Value)} {l:List α}:Mo μ ν (All2 (R μ) css l) (All2 (R ν) css l):=⟨λh a=>All2.mono RM.m h a⟩
instance {μ ν:Frz} {b t:Nat} {cs:Array Value}:Mo μ ν (BlkM μ b t cs) (BlkM ν b t cs):=⟨λh a=>a.mono h⟩
instance {μ ν:Frz} {α:Type} {T:TypeId} {R:Rel α} [RM R] {pa:Option Addr} {x:Option α}:Mo μ ν (PtM μ T R pa x) (PtM ν T R pa x):=⟨λh a=>a.mono RM.m h⟩
instance {β:Type} {R:Rel β} [RM R] {μ ν:Frz} {hd:List Hd} {css:List (List (List Value))} {L:List (List β)}:Mo μ ν (NestOk (R μ) hd css L) (NestOk (R ν) hd css L):=⟨λh a=>NestOk.mono RM.m h a⟩
instance {κ μ ν:Frz}:Mo μ ν (κ.le μ) (κ.le ν):=⟨λh a=>a.t h⟩
instance {P:Program} {name:String} {k:IntKind} {zs:List Int} {μ ν:Frz}:Mo μ ν (TabM P name k zs μ) (TabM P name k zs ν):=⟨λh a=>a.mono h⟩
instance {μ ν:Frz} {κ α:Type} [DecidableEq κ] {sz:Nat} {R:Rel α} [RM R] {Bv:List (κ×Value)} {B:List (κ×List α)}:Mo μ ν (MapQ sz R μ Bv B) (MapQ sz R ν Bv B):=⟨λh a=>a.mono RM.m h⟩
instance {μ ν:Frz} {κ α:Type} [DecidableEq κ] {sz:Nat} {f:α->List Value} {Bv:List (κ×Value)} {B:List (κ×List α)}:Mo μ ν (MapM sz f μ Bv B) (MapM sz f ν Bv B):=⟨λh a=>a.mono h⟩
theorem mo2 {A A' B B':Prop} (h:μ.le ν) (a:A) (b:B) [i:Mo μ ν A A'] [j:Mo μ ν B B']:A'/\B':=⟨i.m h a,j.m h b⟩
theorem mo3 {A A' B B' C C':Prop} (h:μ.le ν) (a:A) (b:B) (c:C) [i:Mo μ ν A A'] [j:Mo μ ν B B'] [k:Mo μ ν C C']:A'/\B'/\C':=⟨i.m h a,mo2 h b c⟩
theorem mo4 {A A' B B' C C' D D':Prop} (h:μ.le ν) (a:A) (b:B) (c:C) (d:D) [i:Mo μ ν A A'] [j:Mo μ ν B B'] [k:Mo μ ν C C'] [l:Mo μ ν D D']:A'/\B'/\C'/\D':=⟨i.m h a,mo3 h b c d⟩
theorem mo5 {A A' B B' C C' D D' E E':Prop} (h:μ.le ν) (a:A) (b:B) (c:C) (d:D) (e:E) [i:Mo μ ν A A'] [j:Mo μ ν B B'] [k:Mo μ ν C C'] [l:Mo μ ν D D'] [m:Mo μ ν E E']:A'/\B'/\C'/\D'/\E':=⟨i.m h a,mo4 h b c d e⟩
theorem mo6 {A A' B B' C C' D D' E E' G G':Prop} (h:μ.le ν) (a:A) (b:B) (c:C) (d:D) (e:E) (g:G) [i:Mo μ ν A A'] [j:Mo μ ν B B'] [k:Mo μ ν C C'] [l:Mo μ ν D D'] [m:Mo μ ν E E'] [n:Mo μ ν G G']:A'/\B'/\C'/\D'/\E'/\G':=⟨i.m h a,mo5 h b c d e g⟩
theorem oV (t j:Nat) {tt:Nat} {u:Value} (c:BlkM μ b tt cs) (hs:∀w',D w'->FrzAt μ w') (l:Obs P T D obs) (hj:cs[j]? = some u:=by exact rfl) (d:S4 P t=true:=by kernel_rfl):Obs P T D (.run [] (Instr.loadAt t (.pointer (some ⟨b,j,none⟩))) u::obs):=Dg (ob1 d λw' hd=>(c.blk (hs w' hd)).cell1 hj) l
theorem oU (t i j:Nat) {u:Value} (hs:∀w',D w'->St w0 H w') (l:Obs P T D obs) (hi:H[i]? = some (blk b tt cs):=by exact rfl) (hj:cs[j]? = some u:=by exact rfl) (c:S4 P t=true:=by kernel_rfl):Obs P T D (.run [] (Instr.loadAt t (.pointer (some ⟨b,j,none⟩))) u::obs):=oL t i j hs hi hj l c
theorem oW (t i off n:Nat) (hs:∀w',D w'->St w0 H w') (l:Obs P T D obs) (hi:H[i]? = some (blk b tt cs):=by exact rfl) (c:Qf P t=some ((cs.toList.drop off).take n).length:=by kernel_rfl) (d:(cs.toList.drop off).take ((cs.toList.drop off).take n).length=(cs.toList.drop off).take n:=by kernel_rfl):Obs P T D (.run [] (Instr.loadAt t (.pointer (some ⟨b,off,none⟩))) (.agg ((cs.toList.drop off).take n).toArray)::obs):=oN t i off n hs hi l c d
theorem wf (h:K a w) (b:Nat.beq k ops.size=true:=by rfl):WI P r ops (Exit.then K Q) k a w:=wfn b h
theorem nS {x:α} {p:Prop} (h:(none:Option α)=some x):p:=nomatch h
theorem bft (b:Bool):b=true\/b=false:=Bool.eq_false_or_eq_true b
theorem Fr.sb (h:Fr N ds M a) (hs:M'.map (λp=>lookM M p.1)=M'.map (λp=>some p.2):=by kernel_rfl):Fr N ds M' a:=h.sub hs
theorem St.fA (h:St w0 H w) (b:Ak w0 μ) (i:Nat) (hi:H[i]? = some (Eo w0.heap.size μ):=by exact rfl):∀w',w'=w->FrzAt μ w':=λ_ e=>h.fa e b i hi
theorem St.fD (h:St w0 H w) (b:Ak w0 μ) (i:Nat) (hi:H[i]? = some (Eo w0.heap.size μ):=by exact rfl):∀w',Ext w w'->FrzAt μ w':=λ_ e=>h.fd e b i hi
theorem ArrM.a1 (h:ArrM μ sz f ad cap l) (hs:∀w',D w'->FrzAt μ w'):∀w',D w'->Arr w' sz f ad l.length cap l:=λw hd=>h w (hs w hd)
theorem ArrQ.a1 {R:Rel α} {css:List (List Value)} (h:ArrQ μ sz R ad cap css l) (hs:∀w',D w'->FrzAt μ w'):∀w',D w'->Arr w' sz (fN sz) ad l.length cap css:=λw hd=>h.at (hs w hd)
theorem wrX (i:Nat) (c:Fr N [] M a) (d:St w0 H w) (f:lookM M i=some v:=by rfl) (b:fn.results=#[.tmp i]:=by rfl):bodyPost P fn (λe w'=>e=.returned v/\Ext w0 w') .ret a w:=Cw i c f ⟨rfl,d.ext⟩ b
theorem Do {o:Option α} {p:α->Option β} {g:α->β->Option γ} {r:γ} (h:(o.bind λx=>(p x).bind (g x))=some r):∃x,o=some x/\∃y,p x=some y/\g x y=some r:=let ⟨x,a,k⟩:=A4 h;let ⟨y,b,l⟩:=A4 k;⟨x,a,y,b,l⟩
theorem Fs {δ:Type} {o:Option α} {p:α->Option β} {q:α->β->Option γ} {g:α->β->γ->Option δ} {r:δ} (h:(o.bind λx=>(p x).bind λy=>(q x y).bind (g x y))=some r):∃x,o=some x/\∃y,p x=some y/\∃z,q x y=some z/\g x y z=some r:=let ⟨x,a,k⟩:=A4 h;let ⟨y,b,l⟩:=Do k;⟨x,a,y,b,l⟩
theorem qxs {M M':FM} (n k':Nat) (nw:FM) (d:Fr N ds M a) (e:St w0 H w) (c:Obs P Ext (Ext w) obs) (next:∀a' w',Fr N ds M' a'->St w0 H w'->WI P r ops Q k' a' w') [Pre nw M M'] (b:As ops N=true:=by kernel_rfl) (h:Ends P ops n k M M' obs:=by exact ⟨by kernel_rfl⟩) (f:k+n=k':=by rfl):WI P r ops Q k a w:=qx n k' nw d c (λa' w' g x=>next a' w' g (e.later x)) b h f
theorem rXs {M:FM} (n k':Nat) (M':FM) (d:Fr N ds M a) (e:St w0 H w) (c:Obs P Ext (Ext w) obs) (next:∀a' w',Fr N ds M' a'->St w0 H w'->WI P r ops Q k' a' w') (b:As ops N=true:=by kernel_rfl) (h:Ends P ops n k M M' obs:=by exact ⟨by kernel_rfl⟩) (f:k+n=k':=by rfl):WI P r ops Q k a w:=rX n k' M' d c (λa' w' g x=>next a' w' g (e.later x)) b h f
theorem rDs {M:FM} (m:Nat) (M':FM) (e:Fr N ds M a) (f:St w0 H w) (b:Obs P Ext (Ext w) obs) (next:∀a' w',Fr N ds M' a'->St w0 H w'->WI P r ops Q m a' w') (c:P.follows .mixedOrders=true:=by kernel_rfl) (d:(As ops N&&P9 ops m&&K9 ops m&&Fy ops&&Nat.ble m ops.size)=true:=by kernel_rfl) (h:Ends P ops m 0 M M' obs:=by exact ⟨by kernel_rfl⟩):WP P r (.region id ops true) Q a w:=rD m M' e b (λa' w' g x=>next a' w' g (f.later x)) c d h
theorem qDs {M M':FM} (m:Nat) (nw:FM) (e:Fr N ds M a) (f:St w0 H w) (b:Obs P Ext (Ext w) obs) (next:∀a' w',Fr N ds M' a'->St w0 H w'->WI P r ops Q m a' w') [Pre nw M M'] (c:P.follows .mixedOrders=true:=by kernel_rfl) (d:(As ops N&&P9 ops m&&K9 ops m&&Fy ops&&Nat.ble m ops.size)=true:=by kernel_rfl) (h:Ends P ops m 0 M M' obs:=by exact ⟨by kernel_rfl⟩):WP P r (.region id ops true) Q a w:=qD m nw e b (λa' w' g x=>next a' w' g (f.later x)) c d h
theorem St.fr {R:Res} (h:St w0 H w) (i j:Nat) (c:Ak w0 μ) (hi:H[i]? = some (Eo w0.heap.size μ):=by exact rfl) (hj:H[j]? = some R:=by exact rfl) (b:i≠j:=by decide):∃ν,μ.ext w0.heap.size ν/\Ak w0 ν/\St w0 ((H.set i (Eo w0.heap.size ν)).eraseIdx j) w/\∀w',FrzAt ν w'->R.holds w':=h.freeze hi hj b c
def un:List Nat->FM
 | []=>[]
 | t::l=>(t,undef)::un l
instance {M:FM}:Pre (un []) M M:=⟨⟩
instance {t:Nat} {l:List Nat} {M M':FM} [Pre (un l) M M']:Pre (un (t::l)) M ((t,undef)::M'):=⟨⟩
def skF (ops:Array Oper) (k:Nat) (M:FM):FM:=match dstAt ops k with|some d=>(d,undef)::M|none=>M
def skM (ops:Array Oper):Nat->Nat->FM->FM
 | 0,_,M=>M
 | n+1,k,M=>skM ops n (k+1) (skF ops k M)
def skC (ops:Array Oper):Nat->Nat->FM->List (Option Bool×List (Option Value))
 | 0,_,_=>[]
 | n+1,k,M=>(((ops[k]?).bind (·.guard)).bind (guardIs ops M),(skF ops k M).map (λp=>lookM (match dstAt ops k with|some d=>(d,undef)::M|none=>M) p.1))::skC ops n (k+1) (skF ops k M)
def skD (ops:Array Oper):Nat->Nat->FM->List (Option Bool×List (Option Value))
 | 0,_,_=>[]
 | n+1,k,M=>(some false,(skF ops k M).map (λp=>some p.2))::skD ops n (k+1) (skF ops k M)
theorem skR (b:As ops N=true) {k':Nat}:∀(n k:Nat) (M:FM) (a:Act),Fr N ds M a->skC ops n k M=skD ops n k M->k+n=k'->(∀a',Fr N ds (skM ops n k M) a'->WI P r ops Q k' a' w)->WI P r ops Q k a w
 | 0,k,M,a,d,_,g,next=>by
  have e:k=k':=g
  subst e
  exact next a d
 | n+1,k,M,a,d,c,g,next=>by
  simp only [skC,skD,List.cons.injEq,Prod.mk.injEq] at c
  exact A9t (k+1) (skF ops k M) d b ⟨c.1.1⟩ ⟨c.1.2⟩ rfl λa' f=>skR b n (k+1) (skF ops k M) a' f c.2 (by omega) next
theorem qks {M M':FM} (k':Nat) (l:List Nat) (c:Fr N ds M a) (next:∀a',Fr N ds M' a'->WI P r ops Q k' a' w) [Pre (un l) M M'] (b:As ops N=true:=by kernel_rfl) (d:skC ops l.length k M=skD ops l.length k M:=by kernel_rfl) (e:skM ops l.length k M=M':=by kernel_rfl) (f:k+l.length=k':=by rfl):WI P r ops Q k a w:=skR b l.length k M a c d f (by rw [e];exact next)
theorem oK {f:FuncId} (h:∀(μ:Frz) (w0:World),FrzAt μ w0->Calls P f args w0 (λe w=>e=.returned v/\Ext w0 w)) (l:Obs P Ext D obs):Obs P Ext D (.call [] f args v::obs):=oC (λw _=>h _ w (Au w)) l
abbrev fv (k:Nat) (cs:Array Value):Value:=.func (.func k) #[] cs
abbrev A3:=@wpIn_ret
abbrev A1:=@wpIn_block
abbrev Ag:=@wpIn_exit
abbrev Ar:=@wpIn_skip
abbrev A5:=@WI.region
abbrev Aw:=@WI.fin
abbrev Ae:=@WRun.fin
abbrev A9:=@Nat.lt_succ_self
abbrev A8:=@Frz.le_refl
end Go.Eng
