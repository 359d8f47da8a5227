import Derived.Test.YtkjnafecmjakcaaGreatDoorS10EE
import Derived.RecoverIn
import Derived.ProofKit
import Derived.OpenShut
import Derived.ChangeOld
import Derived.Carry
import Derived.DataElems
import Derived.Laws.StructEq
import Derived.Shelf.SlSortCmp.WholeK
import Derived.Shelf.SlSortCmp.NoneTotal
import Derived.Laws.BytesString
import Derived.Lib.ConvBytes
import Derived.LoopNIn
import Derived.Lib.Bytes
import Derived.Lib.Bytealg
import Derived.Lib.Strings
import Derived.Shelf.GgClosure.StringsIndexFunc
import Derived.Lib.LaidTab
import Derived.Lib.ItoaMem
import Derived.Lib.UnsafeStr
import Derived.MapKept
set_option linter.unusedVariables false
set_option linter.unusedSimpArgs false
set_option linter.unusedSectionVars false
namespace Go.Eng
open Go Go.RowKit
variable {α β γ κ:Type} {o:Oper} {f:α->List Value} {r:Option Nat} {d x u:α} {c l xs l' l3:List α} {P:Program} {T:World->World->Prop} {D:World->Prop} {w w' w0:World} {cs args:Array Value} {k sz cap b n m N bytes id xt:Nat} {ad sad:Option Addr} {a a':Act} {H:List Res} {R:Ending->World->Prop} {j lo hi:Int} {ys:List β} {ops:Array Oper} {Q:Exit->Act->World->Prop} {K K':Act->World->Prop} {ds:List Deferred} {M M':List (Nat×Value)} {v:Value} {tt kt:TypeId} {eff rest done:List Nat} {obs:List Ob} {css:List (List α)} {S:α->β->Prop} {fn:Func} {ch:List PanicEntry} {fs:Array Field} {L:List (List β)} {kf:κ->Value} {es:List MapEntry} {ρ:Operand->Value} {news:List Value}
def ck (x:Int):Option Int:=if -9223372036854775808<=x/\x<=9223372036854775807 then some x else none
def A26 (x y:Int):Option Int:=if y=0 then none else ck (x.tdiv y)
def Wr (x y:Int):Option Int:=if y=0 then none else some (x.tmod y)
def getI {α:Type} (l:List α) (i:Int):Option α:=if 0<=i then l[i.toNat]? else none
def L0 {α:Type} (l:List α) (i:Int) (x:α):Option (List α):=if 0<=i/\i<l.length then some (l.set i.toNat x) else none
def Wb {α:Type} (l:List α) (lo hi:Int):Option (List α):=if 0<=lo/\lo<=hi/\hi<=l.length then some ((l.drop lo.toNat).take (hi.toNat-lo.toNat)) else none
def apd {α:Type} (B:Nat) (l k:List α):Option (List α):=if (l.length+k.length)*B<=140737488355328/\l.length+k.length<=9223372036854775807 then some (l++k) else none
def mkI {α:Type} (B:Nat) (n:Int) (x:α):Option (List α):=if 0<=n/\B*n.toNat<=281474976710656/\n<=9223372036854775807 then some (List.replicate n.toNat x) else none
def gd {α:Type} (g:Bool) (o:Option α) (d:α):Option α:=bif g then o else some d
theorem A6 {o:Option α} {f:α->Option β} {r:β} (h:o.bind f=some r):∃x,o=some x/\f x=some r:=Option.bind_eq_some_iff.1 h
theorem Bl {g:Bool} {o:Option α} (h:gd g o d=some x) (b:g=true):o=some x:=by subst b;exact h
theorem D3 {c:Bool} {y z:α} (h:(bif c then x else y)=z) (b:c=true):x=z:=by subst b;exact h
theorem D2 {c:Bool} {y z:α} (h:(bif c then x else y)=z) (b:c=false):y=z:=by subst b;exact h
theorem Yu {x y:Int} (h:ck x=some y):y=x/\-9223372036854775808<=x/\x<=9223372036854775807:=by
 unfold ck at h
 split at h
 ·cases h;exact ⟨rfl,by assumption⟩
 ·cases h
theorem Ny {i:Int} (h:getI l i=some x):0<=i/\i<l.length/\l[i.toNat]? = some x:=by
 unfold getI at h
 split at h
 ·have:=(List.getElem?_eq_some_iff.1 h).1;exact ⟨by assumption,by omega,h⟩
 ·cases h
section
variable {cs:List Cd} {t:TypeId} {x y z:Int}
theorem A3h (h:Bi cs=true->ck (x+y)=some z):Ob.ok P T D (.run cs (binOp .add t (.int .i64 x) (.int .i64 y)) (.int .i64 z)) :=
 obC λb=>by obtain ⟨rfl,hb⟩:=Yu (h b);exact B57 hb
theorem A3i (h:Bi cs=true->ck (x-y)=some z):Ob.ok P T D (.run cs (binOp .sub t (.int .i64 x) (.int .i64 y)) (.int .i64 z)) :=
 obC λb=>by obtain ⟨rfl,hb⟩:=Yu (h b);exact B5a hb
theorem B3z (h:Bi cs=true->ck (x*y)=some z):Ob.ok P T D (.run cs (binOp .mul t (.int .i64 x) (.int .i64 y)) (.int .i64 z)) :=
 obC λb=>by obtain ⟨rfl,hb⟩:=Yu (h b);exact B59 hb
theorem B43 (h:Bi cs=true->A26 x y=some z):Ob.ok P T D (.run cs (binOp .quo t (.int .i64 x) (.int .i64 y)) (.int .i64 z)) :=
 obC λb=>by
  have h:=h b;unfold A26 at h
  split at h
  ·cases h
  ·obtain ⟨rfl,hb⟩:=Yu h;have:=B45 (P:=P) (T:=T) (D:=D) (cs:=cs) (t:=t) (x:=x) (y:=y) (by assumption)
   rwa [Go.Eng.wrap64 hb] at this
theorem B46 (h:Bi cs=true->Wr x y=some z):Ob.ok P T D (.run cs (binOp .rem t (.int .i64 x) (.int .i64 y)) (.int .i64 z)) :=
 obC λb=>by
  have h:=h b;unfold Wr at h
  split at h
  ·cases h
  ·cases h;exact B47 (by assumption)
theorem B1s {src dst:TypeId} {k:IntKind} (hs:(P.underlying src).isSome=true) (hd:P.underlying dst=some (.int .i64)) (h:Bi cs=true->ck x=some z) :
  Ob.ok P T D (.run cs (convert src dst (.int k x)) (.int .i64 z)):=obC λb=>by obtain ⟨rfl,hb⟩:=Yu (h b);exact B3w hs hd hb
theorem A6o {i:Nat} (h:l[i]? = some u):l.getD i d=u:=by rw [List.getD_eq_getElem?_getD,h];rfl
end
abbrev Frz:=Nat->Option Obj
variable {μ ν:Frz}
def Frz.le (μ ν:Frz):Prop:=∀b o,μ b=some o->ν b=some o
def FrzAt (μ:Frz) (w:World):Prop:=∀b o,μ b=some o->w.heap[b]? = some o
def D9 (w:World):Frz:=λb=>w.heap[b]?
def Frz.ext (n:Nat) (μ ν:Frz):Prop:=μ.le ν/\∀b o,ν b=some o->b<n->μ b=some o
def Ar (w0:World) (μ:Frz):Prop:=∀b o,b<w0.heap.size->μ b=some o->w0.heap[b]? = some o
def Jv (n:Nat) (μ:Frz):Res where
 foot:=λb=>n<=b/\∃o,μ b=some o
 holds:=λw=>∀b o,n<=b->μ b=some o->w.heap[b]? = some o
 loc:=λw w' h hb b o hn ho=>(h b ⟨hn,o,ho⟩).trans (hb b o hn ho)
 lt:=λw b hb hk=>by obtain ⟨hn,o,ho⟩:=hk;exact (Array.getElem?_eq_some_iff.1 (hb b o hn ho)).1
theorem Frz.le_refl (μ:Frz):μ.le μ:=λ_ _ h=>h
theorem Frz.le_trans {a b c:Frz} (h:a.le b) (k:b.le c):a.le c:=λx o d=>k x o (h x o d)
theorem Frz.ext_refl (n:Nat) (μ:Frz):μ.ext n μ:=⟨μ.le_refl,λ_ _ h _=>h⟩
theorem Frz.ext_trans {a b c:Frz} (h:a.ext n b) (k:b.ext n c):a.ext n c:=⟨Frz.le_trans h.1 k.1,λx o d hn=>h.2 x o (k.2 x o d hn) hn⟩
theorem Frz.ext_mono {a b:Frz} (h:a.ext n b) (hm:m<=n):a.ext m b:=⟨h.1,λx o c hn=>h.2 x o c (by omega)⟩
theorem Ax (w:World):FrzAt (D9 w) w:=λ_ _ h=>h
theorem FrzAt.le_mem (h:FrzAt μ w):μ.le (D9 w):=h
theorem FrzAt.low (h:FrzAt ν w) (c:μ.le ν):FrzAt μ w:=λb o hb=>h b o (c b o hb)
section
variable {R:Res}
theorem FrzAt.later (h:FrzAt μ w) (c:Ext w w'):FrzAt μ w':=λb o hb=>c.block (h b o hb)
theorem FrzAt.init (h:FrzAt μ w0):Ar w0 μ/\St w0 [Jv w0.heap.size μ] w0 :=
 ⟨λb o _ hb=>h b o hb,(St.init w0).push (Ext.refl w0) (λb o _ hb=>h b o hb) (λ_ hb=>hb.1)⟩
theorem St.frz {i:Nat} (h:St w0 H w) (hi:H[i]? = some (Jv w0.heap.size μ)) (e:Ar w0 μ):FrzAt μ w:=λb o hb=>by
 rcases Nat.lt_or_ge b w0.heap.size with c|d
 ·exact h.ext.block (e b o c hb)
 ·exact h.res hi b o d hb
theorem St.freezeT {i j:Nat} (h:St w0 H w) (hi:H[i]? = some (Jv w0.heap.size μ)) (hj:H[j]? = some R) (c3:i≠j) (hl:Ar w0 μ) :
  ∃ν,μ.ext w0.heap.size ν/\Ar w0 ν/\St w0 ((H.set i (Jv w0.heap.size ν)).eraseIdx j) w/\(∀w',FrzAt ν w'->R.holds w')/\∀b,R.foot b->μ b=none/\(∃o,ν b=some o)/\w0.heap.size<=b:=by
 classical
 have hR:=h.res hj;have b4:R∈H:=List.mem_of_getElem? hj;refine ⟨λb=>if R.foot b then w.heap[b]? else μ b,⟨λb o hb=>?_,λb o hb hn=>?_⟩,λb o n hb=>?_,?_,λw' c4=>?_,λb c=>?_⟩
 ·by_cases c:R.foot b
  ·simp only [if_pos c];exact h.frz hi hl b o hb
  ·simp only [if_neg c];exact hb
 ·have c:¬R.foot b:=λc=>by have:=h.low R b4 b c;omega
  simp only [if_neg c] at hb;exact hb
 ·have c:¬R.foot b:=λc=>by have:=h.low R b4 b c;omega
  simp only [if_neg c] at hb;exact hl b o n hb
 ·
  have l:i<H.length:=(List.getElem?_eq_some_iff.1 hi).1;have c9:j<H.length:=(List.getElem?_eq_some_iff.1 hj).1;have b1:∀S,S∈(H.set i (Jv w0.heap.size λb=>if R.foot b then w.heap[b]? else μ b)).eraseIdx j->S=Jv w0.heap.size (λb=>if R.foot b then w.heap[b]? else μ b)\/∃k,k≠i/\k≠j/\H[k]? = some S:=by
   intro S hS;obtain ⟨k,f⟩:=List.mem_iff_getElem?.1 hS;rw [List.getElem?_eraseIdx] at f
   by_cases x:k<j
   ·rw [if_pos x] at f
    by_cases d:k=i
    ·subst d;rw [List.getElem?_set_self l] at f;cases f;exact .inl rfl
    ·rw [List.getElem?_set_ne (Ne.symm d)] at f;exact .inr ⟨k,d,by omega,f⟩
   ·rw [if_neg x] at f
    by_cases d:k+1=i
    ·rw [d,List.getElem?_set_self l] at f;cases f;exact .inl rfl
    ·rw [List.getElem?_set_ne (Ne.symm d)] at f;exact .inr ⟨k+1,d,by omega,f⟩
  have apart:∀(p q:Nat) (S S':Res),p≠q->H[p]? = some S->H[q]? = some S'->∀b,S.foot b->¬S'.foot b:=by
   intro p q S S' b9 hp hq b hb g;have r:=(List.getElem?_eq_some_iff.1 hp).1;have s:=(List.getElem?_eq_some_iff.1 hq).1;have e1:H[p]=S:=(List.getElem?_eq_some_iff.1 hp).2;have e2:H[q]=S':=(List.getElem?_eq_some_iff.1 hq).2;rcases Nat.lt_or_gt_of_ne b9 with n|b5
   ·have:=List.pairwise_iff_getElem.1 h.apart p q r s n;rw [e1,e2] at this;exact this b hb g
   ·have:=List.pairwise_iff_getElem.1 h.apart q p s r b5;rw [e1,e2] at this;exact this b g hb
  have b2:∀k S,k≠i->k≠j->H[k]? = some S->∀b,(Jv w0.heap.size λb=>if R.foot b then w.heap[b]? else μ b).foot b->¬S.foot b:=by
   intro k S d x f b hb c0;obtain ⟨hn,o,ho⟩:=hb
   by_cases c:R.foot b
   ·exact apart j k R S (Ne.symm x) hj f b c c0
   ·simp only [if_neg c] at ho;exact apart i k _ S (Ne.symm d) hi f b ⟨hn,o,ho⟩ c0
  refine ⟨h.ext,λS hS=>?_,λS hS b hb=>?_,?_⟩
  ·rcases b1 S hS with rfl|⟨k,_,_,f⟩
   ·intro b o hn ho
    by_cases c:R.foot b
    ·simp only [if_pos c] at ho;exact ho
    ·simp only [if_neg c] at ho;exact h.res hi b o hn ho
   ·exact h.res f
  ·rcases b1 S hS with rfl|⟨k,_,_,f⟩
   ·exact hb.1
   ·exact h.low S (List.mem_of_getElem? f) b hb
  ·rw [List.pairwise_iff_getElem];intro p q hp hq b9 b hb g;have key:∀z (hz:z<((H.set i (Jv w0.heap.size λb=>if R.foot b then w.heap[b]? else μ b)).eraseIdx j).length),∃z',(p<q->True)/\((H.set i (Jv w0.heap.size λb=>if R.foot b then w.heap[b]? else μ b))[z']? = some ((H.set i (Jv w0.heap.size λb=>if R.foot b then w.heap[b]? else μ b)).eraseIdx j)[z])/\z'≠j/\(z'=if z<j then z else z+1):=by
    intro z hz;have t:=List.getElem?_eq_getElem hz;rw [List.getElem?_eraseIdx] at t
    by_cases y:z<j
    ·rw [if_pos y] at t;exact ⟨z,λ_=>trivial,t,by omega,by rw [if_pos y]⟩
    ·rw [if_neg y] at t;exact ⟨z+1,λ_=>trivial,t,by omega,by rw [if_neg y]⟩
   obtain ⟨p',_,u,c5,ep⟩:=key p hp;obtain ⟨q',_,m,c6,eq⟩:=key q hq;have b3:p'≠q':=by rw [ep,eq];split<;>split<;>omega
   by_cases b0:p'=i
   ·rw [b0,List.getElem?_set_self l] at u;have v:q'≠i:=λe=>b3 (by rw [b0,e]);rw [List.getElem?_set_ne (Ne.symm v)] at m;rw [←Option.some.inj u] at hb;exact b2 q' _ v c6 m b hb g
   ·rw [List.getElem?_set_ne (Ne.symm b0)] at u
    by_cases v:q'=i
    ·rw [v,List.getElem?_set_self l] at m;rw [←Option.some.inj m] at g;exact b2 p' _ b0 c5 u b g hb
    ·rw [List.getElem?_set_ne (Ne.symm v)] at m;exact apart p' q' _ _ b3 u m b hb g
 ·refine R.loc w w' (λb hb=>?_) hR;have b6:=R.lt w b hR hb;have:w.heap[b]? = some w.heap[b]:=Array.getElem?_eq_getElem b6;rw [this];exact c4 b _ (by simp only [if_pos hb];exact this)
 ·have b6:=R.lt w b hR c;have b7:=h.low R b4 b c;refine ⟨?_,⟨w.heap[b],by simp only [if_pos c];exact Array.getElem?_eq_getElem b6⟩,b7⟩
  cases hm:μ b with
  | none=>rfl
  | some o =>
   exfalso;have r:=(List.getElem?_eq_some_iff.1 hi).1;have s:=(List.getElem?_eq_some_iff.1 hj).1;have e1:=(List.getElem?_eq_some_iff.1 hi).2;have e2:=(List.getElem?_eq_some_iff.1 hj).2;rcases Nat.lt_or_gt_of_ne c3 with n|b5
   ·have:=List.pairwise_iff_getElem.1 h.apart i j r s n;rw [e1,e2] at this;exact this b ⟨b7,o,hm⟩ c
   ·have:=List.pairwise_iff_getElem.1 h.apart j i s r b5;rw [e1,e2] at this;exact this b c ⟨b7,o,hm⟩
theorem St.freeze {i j:Nat} (h:St w0 H w) (hi:H[i]? = some (Jv w0.heap.size μ)) (hj:H[j]? = some R) (b:i≠j) (c:Ar w0 μ) :
  ∃ν,μ.ext w0.heap.size ν/\Ar w0 ν/\St w0 ((H.set i (Jv w0.heap.size ν)).eraseIdx j) w/\∀w',FrzAt ν w'->R.holds w':=by
 obtain ⟨ν,d,e,f,g,_⟩:=h.freezeT hi hj b c;exact ⟨ν,d,e,f,g⟩
theorem St.frzMerge {i:Nat} {Hn:List Res} (h:St w0 H w) (hi:H[i]? = some (Jv w0.heap.size μ)) (hl:Ar w0 μ) (hx:μ.ext w.heap.size ν) (hQ:St w (Jv w.heap.size ν::Hn) w') :
  Ar w0 ν/\St w0 (Hn++H.set i (Jv w0.heap.size ν)) w':=by
 have c4:=h.ext.size;refine ⟨λb o g hb=>hl b o g (hx.2 b o hb (by omega)),?_⟩;have h1:St w0 (Jv w.heap.size ν::Hn++H) w':=h.madeL hQ;have x:i<H.length:=(List.getElem?_eq_some_iff.1 hi).1;have j:St w0 (Jv w.heap.size ν::Hn) w':=h1.sub (List.sublist_append_left _ _);have e:St w0 H w':=h1.sub (List.sublist_append_right _ _);have t:=List.pairwise_append.1 h1.apart;have y:=List.pairwise_cons.1 t.1;have cases_:∀b o,w0.heap.size<=b->ν b=some o->(Jv w0.heap.size μ).foot b\/(Jv w.heap.size ν).foot b:=by
  intro b o hn hb;rcases Nat.lt_or_ge b w.heap.size with g|b7
  ·exact .inl ⟨hn,o,hx.2 b o hb g⟩
  ·exact .inr ⟨b7,o,hb⟩
 have l:∀S,S∈H.set i (Jv w0.heap.size ν)->S=Jv w0.heap.size ν\/∃k,k≠i/\H[k]? = some S:=by
  intro S d;obtain ⟨k,f⟩:=List.mem_iff_getElem?.1 d
  by_cases m:k=i
  ·subst m;rw [List.getElem?_set_self x] at f;cases f;exact .inl rfl
  ·rw [List.getElem?_set_ne (Ne.symm m)] at f;exact .inr ⟨k,m,f⟩
 have u:Jv w0.heap.size μ∈H:=List.mem_of_getElem? hi;have apart:∀(p q:Nat) (S S':Res),p≠q->H[p]? = some S->H[q]? = some S'->∀b,S.foot b->¬S'.foot b:=by
  intro p q S S' z t hq b hb c;have r:=(List.getElem?_eq_some_iff.1 t).1;have s:=(List.getElem?_eq_some_iff.1 hq).1;have e1:H[p]=S:=(List.getElem?_eq_some_iff.1 t).2;have e2:H[q]=S':=(List.getElem?_eq_some_iff.1 hq).2;rcases Nat.lt_or_gt_of_ne z with g|b8
  ·have:=List.pairwise_iff_getElem.1 e.apart p q r s g;rw [e1,e2] at this;exact this b hb c
  ·have:=List.pairwise_iff_getElem.1 e.apart q p s r b8;rw [e1,e2] at this;exact this b c hb
 have b9:∀S,S∈Hn->∀b,(Jv w0.heap.size ν).foot b->¬S.foot b:=by
  intro S d b hb n;obtain ⟨hn,o,ho⟩:=hb;rcases cases_ b o hn ho with hb|hb
  ·exact t.2.2 S (List.mem_cons_of_mem _ d) _ u b n hb
  ·exact y.1 S d b hb n
 have b0:∀k S,k≠i->H[k]? = some S->∀b,(Jv w0.heap.size ν).foot b->¬S.foot b:=by
  intro k S m f b hb n;obtain ⟨hn,o,ho⟩:=hb;rcases cases_ b o hn ho with hb|hb
  ·exact apart i k _ S (Ne.symm m) hi f b hb n
  ·exact t.2.2 _ (List.mem_cons_self ..) S (List.mem_of_getElem? f) b hb n
 refine ⟨h1.ext,λS d=>?_,λS d b hb=>?_,?_⟩
 ·rcases List.mem_append.1 d with d|d
  ·exact j.holds S (List.mem_cons_of_mem _ d)
  ·rcases l S d with rfl|⟨k,_,f⟩
   ·intro b o hn ho;rcases cases_ b o hn ho with hb|hb
    ·obtain ⟨_,o',b1⟩:=hb;have:=e.res hi b o' hn b1;rw [this,←hx.1 b o' b1,ho]
    ·exact j.res (i:=0) rfl b o hb.1 ho
   ·exact e.res f
 ·rcases List.mem_append.1 d with d|d
  ·exact j.low S (List.mem_cons_of_mem _ d) b hb
  ·rcases l S d with rfl|⟨k,_,f⟩
   ·exact hb.1
   ·exact e.low S (List.mem_of_getElem? f) b hb
 ·refine List.pairwise_append.2 ⟨y.2,?_,λS d S' c0 b hb c=>?_⟩
  ·rw [List.pairwise_iff_getElem];intro p q r s z b hb c;have b2:p<H.length:=by simpa using r
   have b3:q<H.length:=by simpa using s
   by_cases v:p=i
   ·subst v;rw [List.getElem_set_self] at hb;rw [List.getElem_set_ne (by omega)] at c;exact b0 q _ (by omega) (List.getElem?_eq_getElem b3) b hb c
   ·rw [List.getElem_set_ne (Ne.symm v)] at hb
    by_cases b4:q=i
    ·subst b4;rw [List.getElem_set_self] at c;exact b0 p _ v (List.getElem?_eq_getElem b2) b c hb
    ·rw [List.getElem_set_ne (Ne.symm b4)] at c;exact apart p q _ _ (by omega) (List.getElem?_eq_getElem b2) (List.getElem?_eq_getElem b3) b hb c
  ·rcases l S' c0 with rfl|⟨k,_,f⟩
   ·exact b9 S d b c hb
   ·exact t.2.2 S (List.mem_cons_of_mem _ d) S' (List.mem_of_getElem? f) b hb c
end
inductive All2 {α β:Type} (R:α->β->Prop):List α->List β->Prop
 | nil:All2 R [] []
 | cons {x:α} {y:β} {xs:List α} {ys:List β}:R x y->All2 R xs ys->All2 R (x::xs) (y::ys)
def ArrM {α:Type} (μ:Frz) (sz:Nat) (f:α->List Value) (ad:Option Addr) (cap:Nat) (l:List α):Prop:=∀w,FrzAt μ w->Arr w sz f ad l.length cap l
def BlkM (μ:Frz) (b:Nat) (t:TypeId) (cs:Array Value):Prop:=∀w,FrzAt μ w->Blk w b t cs
section
variable {e:Nat}
theorem ArrM.mono (h:ArrM μ sz f ad cap l) (b:μ.le ν):ArrM ν sz f ad cap l:=λw c=>h w (c.low b)
theorem BlkM.mono {t:TypeId} (h:BlkM μ b t cs) (c:μ.le ν):BlkM ν b t cs:=λw d=>h w (d.low c)
theorem ArrM.nil:ArrM μ sz f none 0 ([]:List α):=λ_ _=>Arr.nil
theorem Arr.alike (h:Arr w sz f ad n cap l) (c:FrzAt (D9 w) w'):Arr w' sz f ad n cap l:=by
 obtain ⟨d,ad',cap',e,g,i,m,o⟩:=h;refine ⟨d,ad',cap',e,g,i,m,λhn=>?_⟩;obtain ⟨a,p,b,q⟩:=o hn;have hb:∀k,k<w.heap.size->w'.heap[k]? = w.heap[k]?:=λk r=>by
  have:w.heap[k]? = some w.heap[k]:=Array.getElem?_eq_getElem r;rw [this];exact c k _ this
 refine ⟨a,p,?_,λj u s=>?_⟩
 ·have:=hb _ b;rw [Array.getElem?_eq_getElem b] at this;exact (Array.getElem?_eq_some_iff.1 this).1
 ·have:=q j u s;unfold World.cell? at this ⊢;rw [V4] at this ⊢;rw [hb _ b];exact this
theorem Arr.toM (h:Arr w sz f ad l.length cap l):ArrM (D9 w) sz f ad cap l:=λ_ b=>h.alike b
theorem ArrM.of_arr (h:∀w,FrzAt ν w->(arr e sz f ad l.length cap l).holds w):ArrM ν sz f ad cap l:=λw b=>⟨rfl,Sl.of_own (h w b).2⟩
theorem Ae {R:α->β->Prop} (h:All2 R xs ys) {i:Int} {y:β} (c:getI ys i=some y):∃x,getI xs i=some x/\R x y:=by
 have h0:=(Ny c).1;have b:=(Ny c).2.2;unfold getI;rw [if_pos h0]
 clear c h0
 generalize i.toNat=k at b
 induction h generalizing k with
 | nil=>simp at b
 | cons hR _ ih =>
  cases k with
  | zero=>simp at b;subst b;exact ⟨_,rfl,hR⟩
  | succ k=>simp at b;exact ih k b
end
def SK (P:Program) (r:Option Nat) (ops:Array Oper) (k:Nat) (K:Act->World->Prop) (a:Act) (w:World):Prop :=
 ∃o,ops[k]? = some o/\OpG P r ops o a w (λv w'=>K (a.put o.dst v) w')
section
theorem SK.wi (h:SK P r ops k (λa w=>WI P r ops Q (k+1) a w) a w):WI P r ops Q k a w:=by
 obtain ⟨o,ho,h⟩:=h;exact WI.cons ho h (λ_ _ h=>h)
theorem B1x (hF:Fr N ds M a) (b:B5 ops N=true) (ho:plainAt ops k M=some o) (d:(execOp (rhoE (ofM M)) o).run P w=.ok (.value v) w')
  (e:NextM ops k M v M') (next:∀a',Fr N ds M' a'->K a' w'):SK P r ops k K a w:=by
 obtain ⟨c,f,g⟩:=Jc (r:=r) ho hF;refine ⟨o,c,?_⟩;unfold OpG OpR;rw [if_pos f,g,d];exact next _ (Hl c b hF e)
theorem B35 (hF:Fr N ds M a) (b:B5 ops N=true) (ho:plainAt ops k M=some o) (d:(execOp (rhoE (ofM M)) o).run P w=.ok .skip w')
  (e:NextM ops k M undef M') (next:∀a',Fr N ds M' a'->K a' w'):SK P r ops k K a w:=by
 obtain ⟨c,f,g⟩:=Jc (r:=r) ho hF;refine ⟨o,c,?_⟩;unfold OpG OpR;rw [if_pos f,g,d];exact next _ (Hl c b hF e)
theorem A7b {s:Sem Value} (hF:Fr N ds M a) (b:B5 ops N=true) (hs:EffAt ops k M s) (c:s.run P w=.ok v w')
  (d:NextM ops k M v M') (next:∀a',Fr N ds M' a'->K a' w'):SK P r ops k K a w:=by
 have hs:=hs.eq
 cases ho:plainAt ops k M with
 | none=>rw [ho] at hs;simp at hs
 | some o =>
  rw [ho] at hs;exact B1x hF b ho (A5k hs c).2 d next
theorem B4s (M':Nat->List (Nat×Value)) {t:TypeId} (v:Value) (cs:Array Value) (hF:Fr N ds M a) (f:St w0 H w) (c:B5 ops N=true) (hs:EffAt ops k M (Instr.box t v)) (d:v.cells=cs)
  (g:∀b,NextM ops k M (.pointer (some ⟨b,0,none⟩)) (M' b))
  (next:∀b w' a',Fr N ds (M' b) a'->St w0 (blk b t cs::H) w'->K a' w'):SK P r ops k K a w:=by
 refine A7b hF c hs (v:=.pointer (some ⟨w.heap.size,0,none⟩)) (w':={ w with heap:=w.heap.push (.cells cs t) }) ?_ (g _) ?_
 ·subst d;simp [Instr.box,newVar,newRow]
 ·intro a' e;exact next _ _ a' e (f.push (X7 w _) (A35 w t cs) (λb hb=>by rw [show b=w.heap.size from hb];exact Nat.le_refl _))
theorem A8h (M':Nat->List (Nat×Value)) {t:TypeId} (cs:Array Value) (hF:Fr N ds M a) (g:St w0 H w) (e:B5 ops N=true) (hs:EffAt ops k M (Instr.alloc t true (.tuple #[])))
  (c:((P.info? t).bind (·.zero)).map Value.cells=some cs) (j:∀b,NextM ops k M (.pointer (some ⟨b,0,none⟩)) (M' b))
  (next:∀b w' a',Fr N ds (M' b) a'->St w0 (blk b t cs::H) w'->K a' w'):SK P r ops k K a w:=by
 refine A7b hF e hs (v:=.pointer (some ⟨w.heap.size,0,none⟩)) (w':={ w with heap:=w.heap.push (.cells cs t) }) ?_ (j _) ?_
 ·cases hi:P.info? t with
  | none=>rw [hi] at c;simp at c
  | some i =>
   cases d:i.zero with
   | none=>rw [hi] at c;simp [d] at c
   | some z =>
    rw [hi] at c;simp [d] at c;subst c;simp [Instr.alloc,zeroValue,typeInfo,hi,d,newVar,newRow]
 ·intro a' f;exact next _ _ a' f (g.push (X7 w _) (A35 w t cs) (λb hb=>by rw [show b=w.heap.size from hb];exact Nat.le_refl _))
theorem A33 {t:TypeId} {p:Addr} (hF:Fr N ds M a) (b:B5 ops N=true) (hs:StoreAt ops k M t (.pointer (some p)) v) (d:(storeVar t p v).run P w=.ok () w')
  (e:NextM ops k M undef M') (next:∀a',Fr N ds M' a'->K a' w'):SK P r ops k K a w:=by
 have hs:=hs.eq
 cases ho:plainAt ops k M with
 | none=>rw [ho] at hs;simp at hs
 | some o =>
  rw [ho] at hs;simp only [Option.bind_some] at hs
  split at hs
  ·rename_i t' x y c
   simp at hs;obtain ⟨rfl,f,g⟩:=hs;refine B35 hF b ho ?_ e next
   unfold execOp;rw [c];simp [Instr.storeAt,Instr.sureAddr,f,g,d]
  ·simp at hs
theorem H7 (M':List (Nat×Value)) (i:Nat) {t:TypeId} (off:Nat) (v:Value) (cs':Array Value) (hF:Fr N ds M a) (o:St w0 H w) (hi:H[i]? = some (blk b tt cs)) (c:B5 ops N=true)
  (hs:StoreAt ops k M t (.pointer (some ⟨b,off,none⟩)) v) (l:pureSem P (sizeOf t)=some v.cells.size) (d:v.cells.toList.all Value.oneCell'=true) (e:Nat.ble (off+v.cells.size) cs.size=true) (m:A09 cs off v.cells.toList=cs')
  (p:NextM ops k M undef M') (next:∀w' a',Fr N ds M' a'->St w0 (H.set i (blk b tt cs')) w'->K a' w'):SK P r ops k K a w:=by
 have hb:=o.blk hi;have f:=Ba _ _ l w;have g:=run_storeCells_at P b off tt v.cells.toList 0 cs w hb (by simpa using Nat.le_of_ble_eq_true e) (λu q=>List.all_eq_true.1 d u q);simp only [Nat.add_zero] at g;refine A33 hF c hs (w':=w.setRow b cs') ?_ p ?_
 ·subst m;unfold A09;simp [storeVar,f,g]
 ·intro a' n;refine next _ a' n (o.upd hi rfl rfl rfl (by simp [World.setRow]) (λj _ hj=>setRow_other w b j _ hj) ?_ (λj hj=>.inl hj))
  show (w.setRow b cs').heap[b]? = _;exact setRow_heap w b cs _ tt _ hb
theorem B4t (M':Value->List (Nat×Value)) {f:FuncId} {R:Value->World->Prop} (hF:Fr N ds M a) (b:B5 ops N=true) (hs:CallAt P ops k M f args)
  (d:Calls P f args w (λe w'=>∃v,e=.returned v/\R v w')) (g:∀v,NextM ops k M v (M' v)) (next:∀v w' a',R v w'->Fr N ds (M' v) a'->K a' w'):SK P r ops k K a w:=by
 have hs:=hs.eq
 cases ho:plainAt ops k M with
 | none=>rw [ho] at hs;simp at hs
 | some o =>
  rw [ho] at hs;simp only [Option.bind_some] at hs
  split at hs
  ·rename_i f' args' i
   simp at hs;obtain ⟨rfl,rfl⟩:=hs;obtain ⟨c,j,l⟩:=Jc (r:=r) ho hF;refine ⟨o,c,?_⟩;unfold OpG OpR;rw [if_pos j,l,Ba _ _ i w];refine Calls.mono d ?_;rintro e w'' ⟨v,rfl,hv⟩;exact ⟨v,rfl,next v w'' _ hv (Hl c b hF (g v))⟩
  ·simp at hs
def Xx (P:Program) (f:FuncId) (args:Array Value) (w:World) (R:Value->World->Prop):Prop:=Calls P f args w (λe w'=>∃v,e=.returned v/\R v w')
theorem B2q (M':Value->List (Nat×Value)) {f:FuncId} {R:Value->World->Prop} (hF:Fr N ds M a) (b:B5 ops N=true) (hs:CallAt P ops k M f args)
  (c:Xx P f args w R) (d:∀v,NextM ops k M v (M' v)) (next:∀v w' a',R v w'->Fr N ds (M' v) a'->K a' w'):SK P r ops k K a w:=B4t M' hF b hs c d next
theorem A43 (M':List (Nat×Value)) {f:FuncId} (hF:Fr N ds M a) (b:B5 ops N=true) (hs:CallAt P ops k M f args)
  (d:Calls P f args w (λe w'=>e=.returned v/\Ext w w')) (g:NextM ops k M v M') (next:∀w' a',Ext w w'->Fr N ds M' a'->K a' w'):SK P r ops k K a w:=by
 have hs:=hs.eq
 cases ho:plainAt ops k M with
 | none=>rw [ho] at hs;simp at hs
 | some o =>
  rw [ho] at hs;simp only [Option.bind_some] at hs
  split at hs
  ·rename_i f' args' i
   simp at hs;obtain ⟨rfl,rfl⟩:=hs;obtain ⟨c,j,l⟩:=Jc (r:=r) ho hF;refine ⟨o,c,?_⟩;unfold OpG OpR;rw [if_pos j,l,Ba _ _ i w];refine Calls.mono d ?_;rintro e w'' ⟨rfl,hv⟩;exact ⟨v,rfl,next w'' _ hv (Hl c b hF g)⟩
  ·simp at hs
variable {e:Nat}
theorem A9n (M':Nat->List (Nat×Value)) {t len:Nat} (parts:Array (Nat×Value)) (cs:Array Value) (l:List α) (hF:Fr N ds M a) (g:St w0 H w) (c:B5 ops N=true) (hs:EffAt ops k M (Instr.buildSlice t len parts))
  (hb:R5 P t len parts=some (e,cs)) (i:∀x,(f x).length=sz) (j:l.length=len) (m:l.flatMap f=cs.toList) (hn:Nat.ble len 16777216=true) (o:∀b,NextM ops k M (.slice (some ⟨b,0,none⟩) len len) (M' b))
  (next:∀b w' a',Fr N ds (M' b) a'->St w0 (arr e sz f (some ⟨b,0,none⟩) l.length len l::H) w'->K a' w'):SK P r ops k K a w:=by
 subst j;refine A7b hF c hs (A16 hb) (o _) ?_;intro a' d;have p:St w0 (blk w.heap.size e cs::H) { w with heap:=w.heap.push (.cells cs e) }:=g.push (X7 w _) (A35 w e cs) (λb hb=>by rw [show b=w.heap.size from hb];exact Nat.le_refl _);have q:=p.blk_arr (f:=f) (sz:=sz) (l:=l) (n:=l.length) i rfl m (by have:=Nat.le_of_ble_eq_true hn;simp only [maxLen];omega);exact next _ _ a' d q
theorem E6 {B:Nat} (h:apd B l l'=some l3):l3=l++l'/\(l.length+l'.length)*B<=140737488355328/\l.length+l'.length<=maxLen:=by
 unfold apd at h
 split at h
 ·cases h;rename_i h;exact ⟨rfl,h.1,h.2⟩
 ·cases h
theorem B4o (M':Option Addr->Nat->List (Nat×Value)) (i:Nat) {t ty scap:Nat} (hF:Fr N ds M a) (hS:St w0 H w) (hi:H[i]? = some (arr e sz f ad l.length cap l)) (d:B5 ops N=true)
  (hs:EffAt ops k M (Builtin.append_ #[t,t] ty #[.slice ad l.length cap,.slice sad l'.length scap])) (p:R1 P t e sz bytes=true) (g:Arr w sz f sad l'.length scap l') (h1:∀x∈l',(f x).all Value.oneCell'=true) (q:apd bytes l l'=some l3)
  (hM:∀ad2 cap2,NextM ops k M (.slice ad2 l3.length cap2) (M' ad2 cap2))
  (next:∀ad2 cap2 w' a',Fr N ds (M' ad2 cap2) a'->St w0 (H.set i (arr e sz f ad2 l3.length cap2 l3)) w'->K a' w'):SK P r ops k K a w:=by
 obtain ⟨rfl,hb,s⟩:=E6 q;have m:=hS.holds _ (List.mem_of_getElem? hi);obtain ⟨ad2,cap2,w',hr,c,n,o⟩:=B24 (ty:=ty) p m.2 g.2 (λu hu=>by
  obtain ⟨x,hx,v⟩:=List.mem_flatMap.1 hu;exact List.all_eq_true.1 (h1 x hx) u v) hb s
 have b:(l++l').length=l.length+l'.length:=List.length_append;refine A7b hF d hs hr (by rw [←b];exact hM ad2 cap2) ?_;intro a' y;rw [←List.flatMap_append] at c;refine next ad2 cap2 w' a' y (hS.upd hi n.os n.tape n.output n.size (λj hj z=>n.block j hj (λe=>z e.symm)) ⟨rfl,?_⟩ ?_)
 ·rw [b];exact c
 ·rw [b];exact o
theorem A1h (z:Array Value) (n:Nat):(madeCells z (n*z.size)).toList=(List.replicate n ()).flatMap λ_=>z.toList:=by
 unfold madeCells;simp only [Array.toList_map,Array.toList_range]
 induction n with
 | zero=>simp
 | succ n ih =>
  rw [List.replicate_succ',List.flatMap_append,←ih];rw [show (n+1)*z.size=n*z.size+z.size by rw [Nat.add_mul,Nat.one_mul],List.range_add,List.map_append]
  congr 1
  simp only [List.map_map,List.flatMap_cons,List.flatMap_nil,List.append_nil];apply List.ext_getElem
  ·simp
  ·intro i c b;simp at c b;simp only [List.getElem_map,List.getElem_range,Function.comp];have:(n*z.size+i)%z.size=i:=by rw [Nat.mul_comm,Nat.mul_add_mod];exact Nat.mod_eq_of_lt b
   rw [this];simp [b]
theorem A4j {B:Nat} {n:Int} (h:mkI B n x=some l):0<=n/\l=List.replicate n.toNat x/\B*n.toNat<=281474976710656/\n.toNat<=maxLen:=by
 unfold mkI at h
 split at h
 ·cases h;rename_i h;exact ⟨h.1,rfl,h.2.1,by simp only [maxLen];omega⟩
 ·cases h
theorem Xq (M':Nat->List (Nat×Value)) {t:Nat} {n:Int} (x0:α) {z:Value} (hF:Fr N ds M a) (hS:St w0 H w) (d:B5 ops N=true) (hs:EffAt ops k M (Instr.makeSlice t (.int .i64 n) (.int .i64 n)))
  (p:R1 P t e sz bytes=true) (q:(P.info? e).bind (·.zero)=some z) (s:f x0=z.cells.toList) (u:mkI bytes n x0=some l3) (hM:∀b,NextM ops k M (.slice (some ⟨b,0,none⟩) l3.length l3.length) (M' b))
  (next:∀b w' a',Fr N ds (M' b) a'->St w0 (arr e sz f (some ⟨b,0,none⟩) l3.length l3.length l3::H) w'->K a' w'):SK P r ops k K a w:=by
 obtain ⟨h0,rfl,hb,v⟩:=A4j u;obtain ⟨i,z',ht,hi,g,h1,rfl,x,_⟩:=Vs p;have y:z'=z:=by rw [hi] at q;simp [g] at q;exact q
 subst y;have hn:n=(n.toNat:Int):=by omega
 rw [hn] at hs;obtain ⟨w',hr,l,o⟩:=run_make_full (P:=P) w 0 t e i z' sz ht hi g h1 .i64 .i64 n.toNat hb v (Nat.zero_le _);have hx:Ext w w':=⟨o.os,o.tape,o.output,o.size,λj hj=>o.block j hj (by simp)⟩;have c:(List.replicate n.toNat x0).length=n.toNat:=List.length_replicate;refine A7b hF d hs hr (by have:=hM w.heap.size;rw [c] at this;exact this) ?_;intro a' b0;refine next _ w' a' b0 (hS.push hx ⟨rfl,?_⟩ (λb hb=>by simp [Go.Eng.arr,Value.ownBlock] at hb;omega))
 rw [c];have e1:(List.replicate n.toNat x0).flatMap f=(madeCells z'.cells (n.toNat*sz)).toList:=by
  rw [←x,A1h,←s];generalize n.toNat=m
  induction m with
  | zero=>rfl
  | succ m ih=>simp [List.replicate_succ,ih]
 rw [e1];exact l
theorem A4b (b:∀x,(f x).length=sz) {x':α} {us:List Value} {j:Nat} (hj:j+us.length<=sz):∀(l:List α) (i:Nat) (x:α),l[i]? = some x->f x'=(f x).take j++us++(f x).drop (j+us.length) ->
  (l.flatMap f).take (i*sz+j)++us++(l.flatMap f).drop (i*sz+j+us.length)=(l.set i x').flatMap f:=by
 intro l
 induction l with
 | nil=>intro i x h;simp at h
 | cons y l ih =>
  intro i x h c
  cases i with
  | zero =>
   simp at h;subst h;have d:=b y;simp only [Nat.zero_mul,Nat.zero_add,List.flatMap_cons,List.set_cons_zero,c];rw [List.take_append_of_le_length (by omega),List.drop_append_of_le_length (by omega)];simp [List.append_assoc]
  | succ i =>
   simp at h;have:=ih i x h c;have d:=b y;have e1:(i+1)*sz+j=(f y).length+(i*sz+j):=by rw [d,Nat.add_mul];omega
   simp only [List.flatMap_cons,List.set_cons_succ];rw [e1,List.take_length_add_append,Nat.add_assoc,List.drop_length_add_append,←this];simp [List.append_assoc]
theorem A4y {cur us:List β} {p T:Nat} (b:p+us.length<=T) (c:T<=cur.length):(cur.take p++us++cur.drop (p+us.length)).take T=(cur.take T).take p++us++(cur.take T).drop (p+us.length):=by
 have e1:(cur.take p).length=p:=by rw [List.length_take];omega
 have e2:(cur.take p++us).length=p+us.length:=by rw [List.length_append,e1]
 rw [List.take_append,List.take_append,e1,e2,List.take_take,List.take_take,Nat.min_eq_right (by omega),Nat.min_eq_left (by omega),List.take_of_length_le (l:=us) (by omega),List.drop_take]
theorem Rg {i:Int} (h:L0 l i x=some l3):0<=i/\i<l.length/\l3=l.set i.toNat x:=by
 unfold L0 at h
 split at h
 ·cases h;rename_i h;exact ⟨h.1,h.2,rfl⟩
 ·cases h
theorem A2a (M':List (Nat×Value)) (i:Nat) {t:Nat} (off:Nat) (u x:α) (v:Value) (hF:Fr N ds M a) (hS:St w0 H w) (hi:H[i]? = some (arr e sz f ad l.length cap l)) (o:B5 ops N=true)
  (hs:StoreAt ops k M t (.pointer (some ((Cu ad j sz).add off))) v) (hf:∀x,(f x).length=sz) (hu:getI l j=some u) (hx:f x=(f u).take off++v.cells.toList++(f u).drop (off+v.cells.toList.length)) (p:Nat.ble (off+v.cells.toList.length) sz=true)
  (b4:pureSem P (sizeOf t)=some v.cells.size) (s:v.cells.toList.all Value.oneCell'=true) (b5:L0 l j x=some l3) (hM:NextM ops k M undef M')
  (next:∀w' a',Fr N ds M' a'->l.length=l3.length->St w0 (H.set i (arr e sz f ad l.length cap l3)) w'->K a' w'):SK P r ops k K a w:=by
 have c:=hS.holds _ (List.mem_of_getElem? hi);obtain ⟨h0,c7,b6⟩:=Ny hu;obtain ⟨_,_,rfl⟩:=Rg b5;have d:=Nat.le_of_ble_eq_true p;rcases c.2.2 with ⟨h',hz⟩|⟨g,cap',cur,h',m,hg,y,b7,c9,n⟩
 ·have:l.length=0:=hz;omega
 ·simp only [Value.slice.injEq,true_and] at h';obtain ⟨rfl,rfl⟩:=h';have d0:j.toNat<l.length:=by omega
  have c2:j.toNat*sz+off+v.cells.toList.length<=l.length*sz:=by
   have:=Nat.mul_le_mul_right sz (show j.toNat+1<=l.length by omega);rw [Nat.add_mul] at this;omega
  have c3:l.length*sz<=cap*sz:=Nat.mul_le_mul_right sz y;have z:(Cu (some ⟨g,0,none⟩) j sz).add off=⟨g,j.toNat*sz+off,none⟩:=by
   unfold Cu;rw [W8];unfold Addr.add
   split
   ·rename_i h;simp [h]
   ·simp
  rw [z] at hs;have b0:=Ba _ _ b4 w;have b1:=run_storeCells_at P g (j.toNat*sz+off) e v.cells.toList 0 cur w hg (by omega) (λu hu=>List.all_eq_true.1 s u hu);simp only [Nat.add_zero] at b1;have b2:=A4b (f:=f) hf (x':=x) (us:=v.cells.toList) (j:=off) d l j.toNat u b6 hx;have b:l.length=(l.set j.toNat x).length:=by simp
  refine A33 hF o hs (w':=w.setRow g (cur.toList.take (j.toNat*sz+off)++v.cells.toList++cur.toList.drop (j.toNat*sz+off+v.cells.toList.length)).toArray) ?_ hM ?_
  ·simp [storeVar,b0,b1]
  ·intro a' b8;refine next _ a' b8 b (hS.upd hi rfl rfl rfl (by simp [World.setRow]) (λq _ hq=>setRow_other w g q _ (λe=>hq (by simp [Go.Eng.arr,Value.ownBlock,e]))) ⟨b.symm,?_,.inr ⟨g,cap,_,rfl,m,setRow_heap w g cur _ e _ hg,y,b7,?_,?_⟩⟩ (λq hq=>.inl hq))
   ·rw [←b2];have h1:=c.2.1;simp only [List.length_append,List.length_take,List.length_drop] at h1 ⊢;omega
   ·have:cur.toList.length=cur.size:=by simp
    simp only [List.size_toArray,List.length_append,List.length_take,List.length_drop];omega
   ·rw [←b2,←n];have:cur.toList.length=cur.size:=by simp
    exact A4y (by omega) (by omega)
end
def lastW (ops:Array Oper):List Nat->Nat->Option Nat
 | [],_=>none
 | j::l,t=>match lastW ops l t with|some q=>some q|none=>bif (match dstAt ops j with|some d=>Nat.beq d t|none=>false) then some j else none
def B37 (P:Program) (r:Option Nat) (ops:Array Oper) (D:World->Prop) (i:Nat) (a:Act) (v:Value):Prop :=
 ∃o,ops[i]? = some o/\∀a' w',(∀t∈o.looksAt ops,a'.tmps.getD t undef=a.tmps.getD t undef)->D w'->OpG P r ops o a' w' (λv' w''=>v'=v/\w''=w')
def WRun (P:Program) (r:Option Nat) (ops:Array Oper) (D:World->Prop) (eff:List Nat) (K:Act->World->Prop):List Nat->Act->World->Prop
 | [],a,w=>K a w
 | i::l,a,w=>bif eff.contains i then SK P r ops i (λa' w'=>D w'/\WRun P r ops D eff K l a' w') a w else ∃v,B37 P r ops D i a v/\WRun P r ops D eff K l (a.put (dstAt ops i) v) w
def Yn (ops:Array Oper):List Nat->List Nat->Bool
 | _,[]=>true
 | pre,i::l=>(match ops[i]? with|some o=>(o.looksAt ops).all λt=>lastW ops pre t==Nv ops i t|none=>false)&&Yn ops (pre++[i]) l
def U7:List Nat->Bool
 | []=>true
 | i::l=>!l.contains i&&U7 l
section
theorem Wj:∀{l:List Nat},U7 l=true->l.Nodup:=by
 intro l
 induction l with
 | nil=>intro _;exact List.nodup_nil
 | cons i l ih =>
  intro h;rw [U7,Bool.and_eq_true] at h;exact List.nodup_cons.2 ⟨by simpa using h.1,ih h.2⟩
theorem Xb:∀{l:List Nat} {t j:Nat},lastW ops l t=some j->j∈l/\dstAt ops j=some t:=by
 intro l
 induction l with
 | nil=>intro t j h;simp [lastW] at h
 | cons i l ih =>
  intro t j h;rw [lastW] at h
  cases b:lastW ops l t with
  | some q=>rw [b] at h;cases h;exact ⟨List.mem_cons_of_mem _ (ih b).1,(ih b).2⟩
  | none =>
   rw [b] at h;simp only at h
   cases hd:dstAt ops i with
   | none=>rw [hd] at h;simp at h
   | some d =>
    rw [hd] at h;simp only at h
    cases hb:Nat.beq d t with
    | false=>rw [hb] at h;simp at h
    | true=>rw [hb] at h;simp at h;rw [Nat.beq_eq] at hb;subst hb;subst h;exact ⟨List.mem_cons_self ..,hd⟩
theorem A5r {l:List Nat} {i t:Nat}:lastW ops (l++[i]) t=if dstAt ops i=some t then some i else lastW ops l t:=by
 induction l with
 | nil =>
  simp only [List.nil_append,lastW]
  cases hd:dstAt ops i with
  | none=>simp
  | some d =>
   by_cases h:d=t
   ·subst h;simp
   ·have:Nat.beq d t=false:=by rw [←Bool.not_eq_true,Nat.beq_eq];exact h
    simp [this,h]
 | cons j l ih =>
  simp only [List.cons_append,lastW,ih]
  by_cases h:dstAt ops i=some t
  ·rw [if_pos h];simp [h]
  ·rw [if_neg h,if_neg h]
theorem getElem?_of_getD {x y:Array Value} {t:Nat} (hs:x.size=y.size) (h:x.getD t undef=y.getD t undef):x[t]? = y[t]?:=by
 rw [Array.getD_eq_getD_getElem?,Array.getD_eq_getD_getElem?] at h
 by_cases ht:t<x.size
 ·rw [Array.getElem?_eq_getElem ht,Array.getElem?_eq_getElem (by omega)] at h ⊢
  simpa using h
 ·rw [Array.getElem?_eq_none (by omega),Array.getElem?_eq_none (by omega)]
theorem Zl (hs:a'.tmps.size=a.tmps.size) (h:∀t∈o.looksAt ops,a'.tmps.getD t undef=a.tmps.getD t undef):Region.wanted o (yielded ops a'.tmps)=Region.wanted o (yielded ops a.tmps):=by
 unfold Region.wanted
 cases c:o.guard with
 | none=>rfl
 | some jw =>
  obtain ⟨j,want⟩:=jw;simp only;have:yielded ops a'.tmps j=yielded ops a.tmps j:=by
   unfold yielded
   cases hd:(ops[j]?).bind (·.dst) with
   | none=>simp
   | some g =>
    have b:g∈o.looksAt ops:=by
     unfold Oper.looksAt;rw [c];refine List.mem_append_right _ ?_;simp [hd]
    have:=getElem?_of_getD hs (h g b);simp [this]
  rw [this]
theorem A0n (c:plainOp o.op=true) (h:∀t∈o.looksAt ops,a'.tmps.getD t undef=a.tmps.getD t undef):o.semAt r a'.eval=o.semAt r a.eval:=by
 rw [Qb c,Qb c];refine execOp_congr o (λcs b d=>by rw [d] at c;simp [plainOp] at c) ?_;intro x e
 cases x with
 | tmp t=>exact h t (List.mem_append_left _ (List.mem_filterMap.2 ⟨.tmp t,by simpa using e,rfl⟩))
 | const v=>rfl
 | global g=>rfl
 | func f=>rfl
theorem A71 {R:Value->World->Prop} (b:plainOp o.op=true) (hs:a'.tmps.size=a.tmps.size) (h:∀t∈o.looksAt ops,a'.tmps.getD t undef=a.tmps.getD t undef) (c:OpG P r ops o a w R):OpG P r ops o a' w R:=by
 unfold OpG OpR at *;rw [Zl hs h,A0n b h];exact c
structure FIs (ops:Array Oper) (N:Nat) (a0:Act) (vals:Nat->Value) (l:List Nat) (b:Act):Prop where
 size:b.tmps.size=N
 dfs:b.defers=a0.defers
 slot:∀t,b.tmps.getD t undef=(match lastW ops l t with|some j=>vals j|none=>a0.tmps.getD t undef)
theorem FIs.put {a0 b:Act} {vals:Nat->Value} {l:List Nat} {i:Nat} (h:FIs ops N a0 vals l b) (c:B5 ops N=true) (hi:i<ops.size) (hn:i∉l):FIs ops N a0 (V3 vals i v) (l++[i]) (b.put (dstAt ops i) v):=by
 refine ⟨by rw [Uz];exact h.size,by rw [Rc];exact h.dfs,λt=>?_⟩;rw [A5r]
 by_cases hd:dstAt ops i=some t
 ·rw [if_pos hd,hd];have:t<b.tmps.size:=by
   rw [h.size];exact R6 c (Array.getElem?_eq_getElem hi) (by simpa [dstAt,Array.getElem?_eq_getElem hi] using hd)
  rw [Wn this];simp [V3]
 ·rw [if_neg hd,Rd hd,h.slot t]
  cases d:lastW ops l t with
  | none=>rfl
  | some j =>
   have:j≠i:=λe=>hn (e▸(Xb d).1);simp [V3,this]
end
def evalL (P:Program) (ops:Array Oper):List Nat->List (Nat×En)->List Value->Option (List (Nat×En)×List Ob)
 | [],E,vs=>match vs with|[]=>some (E,[])|_=>none
 | i::l,E,vs =>
  match ops[i]? with
  | none=>none
  | some o =>
   match Zt P ops E o vs with
   | none=>none
   | some (e,ob,vs') =>
    bif X5 E o.dst e then
     match evalL P ops l (A3k E o.dst e) vs' with
     | none=>none
     | some (E',obs)=>some (E',ob++obs)
    else none
structure EndsL (P:Program) (ops:Array Oper) (rs:List Nat) (M M':List (Nat×Value)) (obs:List Ob):Prop where
 eq:((evalL P ops rs (ofM M) (obs.map Ob.v)).map λx=>(M'.map (λp=>lookE x.1 p.1),x.2))=some (M'.map (λp=>some ⟨[],p.2⟩),obs)
section
theorem A7c (j:B5 ops N=true) :∀(rs:List Nat) (E E':List (Nat×En)) (vs:List Value) (obs:List Ob) (a:Act),evalL P ops rs E vs=some (E',obs)->A34 E->Obs P (λa b=>b=a) D obs->rs.all (λi=>!eff.contains i)=true ->
  a.tmps.size=N->EnvOk (toA E) a w->(∀a',a'.tmps.size=N->a'.defers=a.defers->EnvOk (toA E') a' w->WRun P r ops D eff K rest a' w)->WRun P r ops D eff K (rs++rest) a w:=by
 intro rs
 induction rs with
 | nil =>
  intro E E' vs obs a h _ _ _ m k next
  cases vs with
  | nil=>simp [evalL] at h;rw [h.1] at k;exact next a m rfl k
  | cons=>simp [evalL] at h
 | cons i rs ih =>
  intro E E' vs obs a h hc c d m k next
  simp only [evalL] at h
  cases ho:ops[i]? with
  | none=>rw [ho] at h;simp at h
  | some o =>
   rw [ho] at h;simp only at h
   cases f:Zt P ops E o vs with
   | none=>rw [f] at h;simp at h
   | some x =>
    obtain ⟨e,ob,vs'⟩:=x;rw [f] at h;simp only at h
    cases n:X5 E o.dst e with
    | false=>rw [n] at h;simp at h
    | true =>
     rw [n] at h;simp only [cond_true] at h
     cases p:evalL P ops rs (A3k E o.dst e) vs' with
     | none=>rw [p] at h;simp at h
     | some y =>
      obtain ⟨E1,obs1⟩:=y;rw [p] at h;simp at h;obtain ⟨rfl,rfl⟩:=h;rw [Obs.append] at c;obtain ⟨h1,h2⟩:=A0g (r:=r) X3 hc f c.1;rw [List.all_cons,Bool.and_eq_true] at d;have q:eff.contains i=false:=by simpa using d.1
      have hd:dstAt ops i=o.dst:=by simp [dstAt,ho]
      rw [List.cons_append,WRun,q];simp only [cond_false];refine ⟨e.val,⟨o,ho,λa' w' hs s=>?_⟩,?_⟩
      ·refine (h2 a' w' s (λt ht ψ g=>?_)).mono (λv w'' hh=>⟨hh.2,hh.1⟩);rw [hs t ht];have:=k t ψ g;rw [Q8] at g
       cases l:lookE E t with
       | none=>rw [l] at g;simp at g
       | some e'=>rw [l] at g;simp at g;subst g;exact this
      ·rw [hd];refine ih _ _ _ _ _ p (A6g hc h1 n) c.2 d.2 (by rw [Uz];exact m) ?_ (λa' u hd' z=>next a' u (hd'.trans (Rc _ _ _)) z);rw [A70];exact k.push (T:=λa b=>b=a) (X0 _ _) rfl (λt ht=>m▸R6 j ho ht) rfl
theorem B5i (rs:List Nat) (M':List (Nat×Value)) (hF:Fr N ds M a) (d:B5 ops N=true) (e:rs.all (λi=>!eff.contains i)=true) (f:Obs P (λa b=>b=a) D obs) (h:EndsL P ops rs M M' obs)
  (next:∀a',Fr N ds M' a'->WRun P r ops D eff K rest a' w):WRun P r ops D eff K (rs++rest) a w:=by
 have h:=h.eq
 cases c:evalL P ops rs (ofM M) (obs.map Ob.v) with
 | none=>rw [c] at h;simp at h
 | some x =>
  obtain ⟨E',obs'⟩:=x;rw [c] at h;simp only [Option.map_some,Option.some.injEq,Prod.mk.injEq] at h;obtain ⟨j,rfl⟩:=h;refine A7c d rs _ _ _ _ a c (Yv M) f e hF.size (Us hF w) ?_;intro a' k hd l;refine next a' ⟨k,hd.trans hF.defers,λp m=>?_⟩
  have g:lookE E' p.1=some ⟨[],p.2⟩:=List.map_inj_left.1 j p m;have:=l p.1 (λv _=>v=(⟨[],p.2⟩:En).val) (by rw [Q8,g];rfl)
  simpa [En.val,Bi] using this
theorem WRun.fin (h:K a w):WRun P r ops D eff K [] a w:=h
end
def fK (k:IntKind) (x:Int):List Value:=[.int k x]
theorem B3l (k:IntKind) (x:Int):(fK k x).length=1:=rfl
def B4x (x:ByteArray):List Value:=[.string x]
theorem A1b (x:ByteArray):(B4x x).length=1:=rfl
section
variable {cs:List Cd} {t:Nat} {l2:List α} {c:List γ} {g:γ->List Value}
theorem Zq (h:Wb l lo hi=some l2):∃a b:Nat,lo=a/\hi=b/\a<=b/\b<=l.length/\l2=(l.drop a).take (b-a)/\l2.length=b-a:=by
 unfold Wb at h
 split at h
 ·rename_i c
  cases h
  refine ⟨lo.toNat,hi.toNat,by omega,by omega,by omega,by omega,rfl,?_⟩;simp;omega
 ·cases h
theorem Arr.cutD (h:Arr w sz f ad n cap l) (c:∀x,(f x).length=sz) (d:Wb l lo hi=some l2):Arr w sz f (U4 ad cap lo.toNat sz) l2.length (cap-lo.toNat) l2:=by
 obtain ⟨a,b,rfl,rfl,e,j,rfl,g⟩:=Zq d;have hn:=h.len;have i:=h.le;rw [g,Int.toNat_natCast];exact h.cut c e (by omega) (by omega) (Nat.le_refl _)
theorem B3x (ht:T2 P t sz=true) (h:Arr w sz g ad l.length cap c) (f:Bi cs=true->Wb l 0 hi=some l2) :
  Ob.ok P T D (.run cs (Instr.sliceAt t (.slice ad l.length cap) none (some (.int .i64 hi)) none) (.slice (U4 ad cap (0:Int).toNat sz) l2.length (cap-(0:Int).toNat))):=by
 intro e;obtain ⟨a,b,k,rfl,m,o,rfl,i⟩:=Zq (f e);have d:a=0:=by omega
 subst d;have j:=h.le;rw [i];have:=A9v (P:=P) (T:=T) (D:=D) (cs:=cs) (n:=l.length) (cap:=cap) (ad:=ad) (hi:=b) ht (λ_=>by omega) e
 simpa using this
end
abbrev Rel (α:Type):=Frz->List Value->α->Prop
def Rel.Mono {α:Type} (R:Rel α):Prop:=∀(μ ν:Frz) (cs:List Value) (x:α),μ.le ν->R μ cs x->R ν cs x
def fN (sz:Nat) (cs:List Value):List Value:=(cs++List.replicate sz undef).take sz
theorem Ah (sz:Nat) (cs:List Value):(fN sz cs).length=sz:=by simp [fN]
def Rel.One {α:Type} (sz:Nat) (R:Rel α):Prop:=∀(μ:Frz) (cs:List Value) (x:α),R μ cs x->(fN sz cs).all Value.oneCell'=true
def RpF {α:Type} (f:α->List Value):Rel α:=λ_ cs x=>cs=f x
theorem RpF.mono:(RpF f).Mono:=λ_ _ _ _ _ h=>h
def ArrQ {α:Type} (μ:Frz) (sz:Nat) (R:Rel α) (ad:Option Addr) (cap:Nat) (css:List (List Value)) (l:List α):Prop:=ArrM μ sz (fN sz) ad cap css/\All2 (R μ) css l
def PtM {α:Type} (μ:Frz) (T:TypeId) (R:Rel α) (pa:Option Addr) (x:Option α):Prop :=
 (pa=none/\x=none)\/∃b cs d,pa=some ⟨b,0,none⟩/\x=some d/\BlkM μ b T cs.toArray/\R μ cs d
section
variable {R:Rel α} {css css':List (List Value)}
theorem All2.len {R:α->β->Prop} (h:All2 R xs ys):xs.length=ys.length:=by
 induction h with
 | nil=>rfl
 | cons _ _ ih=>simp [ih]
theorem All2.imp {R:α->β->Prop} (h:All2 R xs ys) (hi:∀x y,R x y->S x y):All2 S xs ys:=by
 induction h with
 | nil=>exact .nil
 | cons h _ ih=>exact .cons (hi _ _ h) ih
theorem All2.app {R:α->β->Prop} {xs':List α} {ys':List β} (h:All2 R xs ys) (h':All2 R xs' ys'):All2 R (xs++xs') (ys++ys'):=by
 induction h with
 | nil=>exact h'
 | cons h _ ih=>exact .cons h ih
theorem All2.take {R:α->β->Prop} (h:All2 R xs ys):∀k,All2 R (xs.take k) (ys.take k):=by
 induction h with
 | nil=>intro k;simp;exact .nil
 | cons h _ ih=>intro k;cases k with
  | zero=>exact .nil
  | succ k=>exact .cons h (ih k)
theorem All2.drop {R:α->β->Prop} (h:All2 R xs ys):∀k,All2 R (xs.drop k) (ys.drop k):=by
 induction h with
 | nil=>intro k;simp;exact .nil
 | cons h b ih=>intro k;cases k with
  | zero=>exact .cons h b
  | succ k=>exact ih k
theorem All2.set {R:α->β->Prop} {y:β} (h:All2 R xs ys) (b:R x y):∀k,All2 R (xs.set k x) (ys.set k y):=by
 induction h with
 | nil=>intro k;simp;exact .nil
 | cons h c ih=>intro k;cases k with
  | zero=>exact .cons b c
  | succ k=>exact .cons h (ih k)
theorem All2.rep {R:α->β->Prop} {y:β} (h:R x y) (n:Nat):All2 R (List.replicate n x) (List.replicate n y):=by
 induction n with
 | zero=>exact .nil
 | succ n ih=>exact .cons h ih
theorem All2.mono (hR:R.Mono) (b:μ.le ν) (h:All2 (R μ) css l):All2 (R ν) css l:=h.imp λ_ _=>hR _ _ _ _ b
theorem ArrQ.mono (h:ArrQ μ sz R ad cap css l) (hR:R.Mono) (b:μ.le ν):ArrQ ν sz R ad cap css l:=⟨h.1.mono b,h.2.mono hR b⟩
theorem ArrQ.at (h:ArrQ μ sz R ad cap css l) (b:FrzAt μ w):Arr w sz (fN sz) ad l.length cap css:=by
 have:=h.1 w b
 rwa [h.2.len] at this
theorem ArrQ.nil:ArrQ μ sz R none 0 [] ([]:List α):=⟨ArrM.nil,.nil⟩
theorem PtM.mono {T:TypeId} {pa:Option Addr} {x:Option α} (h:PtM μ T R pa x) (hR:R.Mono) (c:μ.le ν):PtM ν T R pa x:=by
 rcases h with h|⟨b,cs,d,e,f,g,i⟩
 ·exact .inl h
 ·exact .inr ⟨b,cs,d,e,f,g.mono c,hR _ _ _ _ c i⟩
theorem PtM.some {T:TypeId} {pa:Option Addr} {x:Option α} (h:PtM μ T R pa x) (c:x=.some d):∃b cs,pa=Option.some ⟨b,0,none⟩/\BlkM μ b T cs.toArray/\R μ cs d:=by
 rcases h with ⟨_,rfl⟩|⟨b,cs,d',f,e,g,i⟩
 ·cases c
 ·rw [c] at e;cases e;exact ⟨b,cs,f,g,i⟩
theorem PtM.mk {T:TypeId} {cs:List Value} (c:BlkM μ b T cs.toArray) (e:R μ cs d):PtM μ T R (Option.some ⟨b,0,none⟩) (Option.some d):=.inr ⟨b,cs,d,rfl,rfl,c,e⟩
theorem BlkM.blk {t:TypeId} (h:BlkM μ b t cs) (c:FrzAt μ w):Blk w b t cs:=h w c
theorem ArrQ.of_own (h:Arr w sz (fN sz) ad l.length cap css) (c:All2 (R μ) css l) (hR:R.Mono) (b:μ.le (D9 w)):ArrQ (D9 w) sz R ad cap css l:=by
 refine ⟨Arr.toM ?_,c.mono hR b⟩;rw [c.len];exact h
theorem ArrQ.of_arr {e:Nat} (h:∀w,FrzAt ν w->(arr e sz (fN sz) ad l.length cap css).holds w) (c:All2 (R μ) css l) (hR:R.Mono) (b:μ.le ν):ArrQ ν sz R ad cap css l:=by
 refine ⟨?_,c.mono hR b⟩;have d:=c.len;intro w f;have:=h w f;rw [←d] at this;exact ⟨rfl,Sl.of_own this.2⟩
theorem ArrQ.one (h:All2 (R μ) css l) (hR:R.One sz):∀x∈css,(fN sz x).all Value.oneCell'=true:=by
 induction h with
 | nil=>intro x b;simp at b
 | cons h _ ih =>
   intro x b;rcases List.mem_cons.1 b with rfl|b
   ·exact hR _ _ _ h
   ·exact ih x b
theorem A8x {xs:List γ} {ys ys2:List α} {S:γ->α->Prop} (h:All2 S xs ys) (b:Wb ys lo hi=Option.some ys2):∃xs2,Wb xs lo hi=Option.some xs2/\All2 S xs2 ys2:=by
 unfold Wb at b ⊢
 split at b
 ·rename_i c
  cases b
  rw [h.len,if_pos c];exact ⟨_,rfl,(h.drop _).take _⟩
 ·cases b
end
section
variable {cs:List Cd} {t:Nat}
theorem Zz {i:Int} (h:Arr w sz f ad n cap l) (ht:T2 P t sz=true) (b:Bi cs=true->getI l i=some u) :
  Ob.ok P T D (.run cs (Instr.indexAt t (.slice ad n cap) (.int .i64 i)) (.pointer (some (Cu ad i sz)))) :=
 B58 h ht λc=>by have:=Ny (b c);have:=h.len;exact ⟨by omega,by omega⟩
theorem A2z {i:Int} (j:Nat) (c:∀x,(f x).length=sz) (h:∀w',D w'->Arr w' sz f ad n cap l) (ht:T6 P t=true) (d:Bi cs=true->getI l i=some u) (hj:(f u)[j]? = some v) :
  Ob.ok P T D (.run cs (Instr.loadAt t (.pointer (some ((Cu ad i sz).add j)))) v):=by
 intro g w' e;obtain ⟨h0,hi,k⟩:=Ny (d g);have m:=(h w' e).len;obtain ⟨_,_,b⟩:=(h w' e).cells c h0 (by omega) u;rw [A6o k] at b;exact Zv ht (b j _ hj)
theorem B3y {i:Int} {us:List Value} (j:Nat) (k:∀x,(f x).length=sz) (h:∀w',D w'->Arr w' sz f ad n cap l) (ht:Sp P t=some m) (o:Bi cs=true->getI l i=some u) (d:us.length=m/\((f u).drop j).take m=us) :
  Ob.ok P T D (.run cs (Instr.loadAt t (.pointer (some ((Cu ad i sz).add j)))) (.agg us.toArray)):=by
 intro p w' e;obtain ⟨h0,hi,c⟩:=Ny (o p);have r:=(h w' e).len;obtain ⟨_,_,g⟩:=(h w' e).cells k h0 (by omega) u;rw [A6o c] at g;refine Zw (by rw [d.1];exact ht) (λq u' b=>?_);rw [W8];refine g (j+q) u' ?_;rw [←d.2,List.getElem?_take] at b
 split at b
 ·rwa [List.getElem?_drop] at b
 ·cases b
end
section
variable {e:Nat} {c':List α} {l l' l3:List β}
theorem R3 (M':Option Addr->Nat->List (Nat×Value)) (i:Nat) {t ty scap:Nat} (hF:Fr N ds M a) (y:St w0 H w) (hi:H[i]? = some (arr e sz f ad l.length cap c)) (n:B5 ops N=true)
  (hs:EffAt ops k M (Builtin.append_ #[t,t] ty #[.slice ad l.length cap,.slice sad l'.length scap])) (s:R1 P t e sz bytes=true) (b:Arr w sz f sad l'.length scap c') (z:∀x∈c',(f x).all Value.oneCell'=true) (u:apd bytes l l'=some l3)
  (hM:∀ad2 cap2,NextM ops k M (.slice ad2 l3.length cap2) (M' ad2 cap2))
  (next:∀ad2 cap2 w' a',Fr N ds (M' ad2 cap2) a'->St w0 (H.set i (arr e sz f ad2 l3.length cap2 (c++c'))) w'->K a' w'):SK P r ops k K a w:=by
 obtain ⟨rfl,hb,m⟩:=E6 u;have o:=y.holds _ (List.mem_of_getElem? hi);have p:c.length=l.length:=o.1;have g:c'.length=l'.length:=b.len;have j:(l++l').length=l.length+l'.length:=List.length_append;have d:(c++c').length=l.length+l'.length:=by rw [List.length_append,p,g]
 rw [←p] at hi hs hb m;rw [←g] at b hs hb m;refine B4o (l:=c) (l':=c') (l3:=c++c') M' i hF y hi n hs s b z ?_ ?_ ?_
 ·unfold apd;rw [if_pos ⟨hb,m⟩]
 ·intro ad2 cap2;have:=hM ad2 cap2;rwa [j,←d] at this
 ·intro ad2 cap2 w' a' v q;rw [d,←j] at q;exact next ad2 cap2 w' a' v q
theorem Mi (M':Nat->List (Nat×Value)) {t len:Nat} (parts:Array (Nat×Value)) (cs:Array Value) (c:List α) (l:List β) (hF:Fr N ds M a) (m:St w0 H w) (d:B5 ops N=true) (hs:EffAt ops k M (Instr.buildSlice t len parts))
  (hb:R5 P t len parts=some (e,cs)) (n:∀x,(f x).length=sz) (i:c.length=len) (g:l.length=len) (o:c.flatMap f=cs.toList) (hn:Nat.ble len 16777216=true) (p:∀b,NextM ops k M (.slice (some ⟨b,0,none⟩) len len) (M' b))
  (next:∀b w' a',Fr N ds (M' b) a'->St w0 (arr e sz f (some ⟨b,0,none⟩) l.length len c::H) w'->K a' w'):SK P r ops k K a w:=by
 refine A9n M' parts cs c hF m d hs hb n i o hn p ?_;intro b w' a' q j;rw [i] at j;exact next b w' a' q (by rw [g];exact j)
end
def A0p (ops:Array Oper) (e i:Nat):Bool:=((A1i ops.toList []).getD i 0).testBit e
def C0 (ops:Array Oper) (m:Nat) (eff done:List Nat):List Nat :=
 (List.range m).filter λi=>!eff.contains i&&(eff.all λe=>!A0p ops e i||done.contains e)&&(match done.getLast? with|some e=>A0p ops e i|none=>true)
def Vx (ops:Array Oper) (eff done:List Nat):List Nat:=eff.filter λe=>!done.contains e&&eff.all λd=>!A0p ops d e||done.contains d
def WT (P:Program) (r:Option Nat) (ops:Array Oper) (D:World->Prop) (m:Nat) (eff:List Nat) (K:Act->World->Prop):Nat->List Nat->Act->World->Prop
 | 0,done,a,w=>WRun P r ops D [] K (C0 ops m eff done) a w
 | n+1,done,a,w=>WRun P r ops D [] (λa w=>∀e∈Vx ops eff done,SK P r ops e (λa' w'=>D w'/\WT P r ops D m eff K n (done++[e]) a' w') a w) (C0 ops m eff done) a w
def SKB (P:Program) (r:Option Nat) (ops:Array Oper) (k:Nat) (B:List PanicEntry->World->Prop) (K:Act->World->Prop) (a:Act) (w:World):Prop :=
 ∃o,ops[k]? = some o/\OpGB P r ops o a w (λv w'=>K (a.put o.dst v) w') B
def WTB (P:Program) (r:Option Nat) (ops:Array Oper) (D:World->Prop) (m:Nat) (eff:List Nat) (B:List PanicEntry->World->Prop) (K:Act->World->Prop):Nat->List Nat->Act->World->Prop
 | 0,done,a,w=>WRun P r ops D [] K (C0 ops m eff done) a w
 | n+1,done,a,w=>WRun P r ops D [] (λa w=>∀e∈Vx ops eff done,SKB P r ops e B (λa' w'=>D w'/\WTB P r ops D m eff B K n (done++[e]) a' w') a w) (C0 ops m eff done) a w
def Va (ops:Array Oper) (pre:List Nat) (i:Nat):Bool:=match ops[i]? with|some o=>(o.looksAt ops).all λt=>lastW ops pre t==Nv ops i t|none=>false
def Up (ops:Array Oper) (m:Nat) (eff:List Nat):Nat->List Nat->List Nat->Bool
 | 0,done,pre=>Yn ops pre (C0 ops m eff done)&&U7 (pre++C0 ops m eff done)&&(List.range m).all (λi=>(pre++C0 ops m eff done).contains i) &&
   ((List.range m).all λj=>match dstAt ops j with|some t=>lastW ops (pre++C0 ops m eff done) t==Nv ops m t|none=>true)
 | n+1,done,pre=>Yn ops pre (C0 ops m eff done)&&U7 (pre++C0 ops m eff done) &&
   (Vx ops eff done).all λe=>Va ops (pre++C0 ops m eff done) e&&!(pre++C0 ops m eff done).contains e&&Up ops m eff n (done++[e]) (pre++C0 ops m eff done++[e])
section
variable {B:List PanicEntry->World->Prop}
theorem SK.toB (h:SK P r ops k K a w):SKB P r ops k B K a w:=by
 obtain ⟨o,ho,h⟩:=h;exact ⟨o,ho,.inl h⟩
theorem A57 {R:Value->World->Prop} (c:plainOp o.op=true) (hs:a'.tmps.size=a.tmps.size) (h:∀t∈o.looksAt ops,a'.tmps.getD t undef=a.tmps.getD t undef) (b:OpGB P r ops o a w R B):OpGB P r ops o a' w R B:=by
 rcases b with b|⟨d,f,args,w',e,g⟩
 ·exact .inl (A71 c hs h b)
 ·refine .inr ⟨?_,f,args,w',?_,g⟩
  ·rw [←d];exact Zl hs h
  ·rw [←e,A0n c h]
theorem A2x:∀(l k:List Nat),l.Nodup->(∀x∈l,x∈k)->l.length<=k.length:=by
 intro l
 induction l with
 | nil=>intro k _ _;simp
 | cons x l ih =>
  intro k hn hs;have d:=hs x (List.mem_cons_self ..);have b:=List.nodup_cons.1 hn;have:=ih (k.erase x) b.2 (λy f=>by
   have c:y≠x:=λe=>b.1 (e▸f);exact (List.mem_erase_of_ne c).2 (hs y (List.mem_cons_of_mem _ f)))
  rw [List.length_erase_of_mem d] at this;have g:0<k.length:=List.length_pos_of_mem d;simp;omega
theorem A7z {l k:List Nat} (hn:l.Nodup) (hs:∀x∈l,x∈k) (d:k.length<=l.length):∀x∈k,x∈l:=by
 intro x c
 by_cases h:x∈l
 ·exact h
 ·have:=A2x (x::l) k (List.nodup_cons.2 ⟨h,hn⟩) (λy b=>by
   rcases List.mem_cons.1 b with rfl|b
   ·exact c
   ·exact hs y b)
  simp at this;omega
theorem A2g {e i:Nat} (h:A0p ops e i=true):Anc ops e i:=X2 h
theorem A4z {pre:List Nat} {i:Nat} {l:List Nat} (h:Yn ops pre (i::l)=true):Va ops pre i=true/\Yn ops (pre++[i]) l=true:=by
 rw [Yn,Bool.and_eq_true] at h;exact h
theorem Vb {pre:List Nat} {i:Nat} (h:Va ops pre i=true) (ho:ops[i]? = some o):∀t∈o.looksAt ops,lastW ops pre t=Nv ops i t:=by
 unfold Va at h;rw [ho] at h;intro t ht
 simpa using List.all_eq_true.1 h t ht
theorem Y5 {l:List Nat} {i:Nat} {k:List Nat} (h:(l++i::k).Nodup):i∉l:=by
 intro hi;have:=(List.nodup_append.1 h).2.2 i hi i (List.mem_cons_self ..);exact this rfl
def A2f (P:Program) (r:Option Nat) (ops:Array Oper) (D:World->Prop) (a:Act) (vals:Nat->Value) (i:Nat):Prop :=
 ∃o,ops[i]? = some o/\∀a' w',(∀t∈o.looksAt ops,a'.tmps.getD t undef=Rh ops a vals i t)->D w'->OpG P r ops o a' w' (λv' w''=>v'=vals i/\w''=w')
def Told (ops:Array Oper) (l:List Nat):Prop:=∀pre i post,l=pre++i::post->Va ops pre i=true
theorem Told.snoc {l:List Nat} {i:Nat} (h:Told ops l) (hi:Va ops l i=true):Told ops (l++[i]):=by
 intro pre j post e;rcases List.eq_nil_or_concat post with rfl|⟨q,x,rfl⟩
 ·have:=List.append_inj' e (by simp);obtain ⟨e1,e2⟩:=this
  cases e2
  rw [←e1];exact hi
 ·rw [List.concat_eq_append,←List.cons_append,←List.append_assoc] at e;obtain ⟨e1,_⟩:=List.append_inj' e (by simp);exact h pre j q e1
theorem A1l {l:List Nat} (ht:Told ops l) {vals vals':Nat->Value} (hv:∀i∈l,vals' i=vals i) {i:Nat} (hi:i∈l) (h:A2f P r ops D a vals i):A2f P r ops D a vals' i:=by
 obtain ⟨o,ho,h⟩:=h;obtain ⟨pre,post,e⟩:=List.append_of_mem hi;refine ⟨o,ho,λa' w' hs d=>?_⟩;rw [hv i hi];refine h a' w' (λt b=>?_) d;rw [hs t b];unfold Rh;have c:=Vb (ht pre i post e) ho t b
 cases hs:Nv ops i t with
 | none=>rfl
 | some j =>
  rw [hs] at c;exact hv j (by rw [e];exact List.mem_append_left _ (Xb c).1)
theorem A6b {l0:List Nat} (f:B5 ops N=true) (n:∀i∈l0,i<ops.size):∀(rs:List Nat) (pre:List Nat) (vals:Nat->Value) (b:Act),(∀i∈rs,i∈l0)->Yn ops pre rs=true->(pre++rs).Nodup->Told ops pre ->
  FIs ops N a vals pre b->(∀i∈pre,i∉eff->A2f P r ops D a vals i)->(∀i∈rs,i∉eff)->WRun P r ops D [] K rs b w ->
  ∃vals' b',(∀i∈pre,vals' i=vals i)/\FIs ops N a vals' (pre++rs) b'/\(∀i∈pre++rs,i∉eff->A2f P r ops D a vals' i)/\Told ops (pre++rs)/\K b' w:=by
 intro rs
 induction rs with
 | nil=>intro pre vals b _ _ _ ht hb p _ c;exact ⟨vals,b,λ_ _=>rfl,by simpa using hb,by simpa using p,by simpa using ht,c⟩
 | cons i rs ih =>
  intro pre vals b g hs k ht hb p s c;obtain ⟨h1,h2⟩:=A4z hs;rw [WRun] at c;simp only [List.contains_nil,cond_false] at c;obtain ⟨v,u,c⟩:=c;have l:=Y5 k;have d:∀j∈pre,V3 vals i v j=vals j:=λj hj=>by
   have:j≠i:=λe=>l (e▸hj);simp [V3,this]
  have x:=hb.put (v:=v) f (n i (g i (List.mem_cons_self ..))) l;have y:=ht.snoc h1;obtain ⟨vals',b',k1,k2,k3,k4,k5⟩:=ih (pre++[i]) (V3 vals i v) _ (λj hj=>g j (List.mem_cons_of_mem _ hj)) h2 (by simpa using k) y x (λj hj z=>by
   rcases List.mem_append.1 hj with hj|hj
   ·exact A1l ht d hj (p j hj z)
   ·simp at hj;subst hj;obtain ⟨o,ho,b0⟩:=u;refine ⟨o,ho,λa' w' hs b1=>?_⟩;have:V3 vals j v j=v:=by simp [V3]
    rw [this];refine b0 a' w' (λt m=>?_) b1;rw [hs t m,hb.slot t];unfold Rh;have hl:=Vb h1 ho t m;rw [hl]
    cases hs:Nv ops j t with
    | none=>rfl
    | some q =>
     rw [hs] at hl;exact d q (Xb hl).1) (λj hj=>s j (List.mem_cons_of_mem _ hj)) c
  refine ⟨vals',b',λj hj=>?_,by simpa using k2,by simpa using k3,by simpa using k4,k5⟩;rw [k1 j (List.mem_append_left _ hj),d j hj]
theorem Zd (m:Nat) (eff:List Nat) (e6:P.follows .mixedOrders=true) (c7:(B5 ops N&&T8 ops m&&Nx ops m&&J7 ops&&Nat.ble m ops.size&&Up ops m eff eff.length [] []&&eff.all (λe=>Nat.blt e m&&(match ops[e]? with|some o=>plainOp o.op|none=>false))&&U7 eff)=true) (hN:a.tmps.size=N)
  (hB:∀ch a' w,a'.defers=a.defers->B ch w->Q (.panic ch) a' w) (hD:D { w with drawn:=w.drawn+1 }) (h:WTB P r ops D m eff B (λa w=>WI P r ops Q m a w) eff.length [] a { w with drawn:=w.drawn+1 }):WP P r (.region id ops true) Q a w:=by
 simp only [Bool.and_eq_true] at c7;obtain ⟨⟨⟨⟨⟨⟨⟨h1,h2⟩,h3⟩,h4⟩,h5⟩,h6⟩,h7⟩,h8⟩:=c7;have e7:=Nat.le_of_ble_eq_true h5;have b6:∀e∈eff,e<m/\∀o,ops[e]? = some o->plainOp o.op=true:=λe he=>by
  have:=List.all_eq_true.1 h7 e he;rw [Bool.and_eq_true] at this;exact ⟨Nat.blt_eq.mp this.1,λo ho=>by have:=this.2;rw [ho] at this;exact this⟩
 have c8:=Wj h8;have newR:∀done i,i∈C0 ops m eff done->i<m/\i∉eff:=by
  intro done i hi;unfold C0 at hi;have:=List.mem_filter.1 hi;simp only [Bool.and_eq_true] at this;exact ⟨List.mem_range.1 this.1,by simpa using this.2.1.1⟩
 let St:Nat->List Nat->List Nat->(Nat->Value)->Act->World->Prop:=λn done pre vals b w =>
  FIs ops N a vals pre b/\(∀i∈pre,i∉eff->A2f P r ops D a vals i)/\Told ops pre/\pre.Nodup/\(∀i∈pre,i<m)/\(∀e∈eff,e∈pre↔e∈done)/\(∀e∈done,e∈eff)/\done.Nodup/\done.length+n=eff.length /\
  (∀i,i<m->i∉eff->(∀e∈eff,A0p ops e i=true->e∈done)->i∈pre) /\
  (match n with
   | 0=>WI P r ops Q m b w/\∀t,lastW ops pre t=Nv ops m t
   | n+1=>(∀e∈Vx ops eff done,SKB P r ops e B (λa' w'=>D w'/\WTB P r ops D m eff B (λa w=>WI P r ops Q m a w) n (done++[e]) a' w') b w)/\∀e∈Vx ops eff done,Va ops pre e=true/\e∉pre/\Up ops m eff n (done++[e]) (pre++[e])=true)
 have enter:∀n done pre vals b w,FIs ops N a vals pre b->(∀i∈pre,i∉eff->A2f P r ops D a vals i)->Told ops pre->(∀i∈pre,i<m)->(∀e∈eff,e∈pre↔e∈done)->(∀e∈done,e∈eff)->done.Nodup->done.length+n=eff.length ->
   (∀i,i<m->i∉eff->(∀e∈eff,A0p ops e i=true->e∈done)->i∈pre++C0 ops m eff done)->Up ops m eff n done pre=true->WTB P r ops D m eff B (λa w=>WI P r ops Q m a w) n done b w ->
   ∃vals' b',(∀i∈pre,vals' i=vals i)/\St n done (pre++C0 ops m eff done) vals' b' w:=by
  intro n done pre vals b w hb hr ht e8 b9 c9 d0 d1 b7 b3 hw;have c1:∀i∈C0 ops m eff done,i∉eff:=λi hi=>(newR done i hi).2;have d2:∀i∈C0 ops m eff done,i<ops.size:=λi hi=>by have:=(newR done i hi).1;omega
  have k:∀i∈pre++C0 ops m eff done,i<m:=λi hi=>by
   rcases List.mem_append.1 hi with hi|hi
   ·exact e8 i hi
   ·exact (newR done i hi).1
  have b8:∀e∈eff,e∈pre++C0 ops m eff done↔e∈done:=λe he=>by
   rw [List.mem_append,b9 e he];exact ⟨λh=>h.elim (λh=>h) (λh=>absurd he (c1 e h)),.inl⟩
  cases n with
  | zero =>
   simp only [Up,Bool.and_eq_true] at b3;obtain ⟨⟨⟨o1,o2⟩,o3⟩,o4⟩:=b3;have l:=Wj o2;rw [WTB] at hw;obtain ⟨vals',b',k1,k2,k3,k4,k5⟩:=A6b (l0:=C0 ops m eff done) (eff:=eff) h1 d2 _ pre vals b (λ_ h=>h) o1 l ht hb hr c1 hw;refine ⟨vals',b',k1,k2,k3,k4,l,k,b8,c9,d0,d1,b7,k5,λt=>?_⟩
   cases hs:Nv ops m t with
   | some j =>
    obtain ⟨e9,p,_⟩:=Tp hs;have:=List.all_eq_true.1 o4 j (List.mem_range.2 e9);rw [p] at this;rw [←hs]
    simpa using this
   | none =>
    cases hl:lastW ops (pre++C0 ops m eff done) t with
    | none=>rfl
    | some j =>
     obtain ⟨q,p⟩:=Xb hl;exact absurd p (Ym hs j (k j q))
  | succ n =>
   simp only [Up,Bool.and_eq_true] at b3;obtain ⟨⟨o1,o2⟩,o3⟩:=b3;have l:=Wj o2;rw [WTB] at hw;obtain ⟨vals',b',k1,k2,k3,k4,k5⟩:=A6b (l0:=C0 ops m eff done) (eff:=eff) h1 d2 _ pre vals b (λ_ h=>h) o1 l ht hb hr c1 hw;refine ⟨vals',b',k1,k2,k3,k4,l,k,b8,c9,d0,d1,b7,k5,λe he=>?_⟩;have:=List.all_eq_true.1 o3 e he;simp only [Bool.and_eq_true] at this;exact ⟨this.1.1,by simpa using this.1.2,this.2⟩
 let G:(Nat->Bool)->(Nat->Value)->World->Prop:=λS σ w=>∃n done pre vals b,St n done pre vals b w/\D w/\(∀i,S i=true->i∈pre)/\(∀e∈done,S e=true)/\(∀i,S i=true->σ i=vals i)
 refine A3l (B:=B) (N:=N) (m:=m) (G:=G) e6 h1 h2 h3 h4 e7 hB ?_ hN ?_ (λ_=>undef) ?_ ?_
 ·intro S σ a1 w1 i o c2 ho f1 s j5 i5 f2 d3 hG c3;obtain ⟨n,done,pre,vals,b,⟨s1,s2,s3,s4,s5,s6,s7,s8,s9,s10,s11⟩,g1,g2,g3,g4⟩:=hG;have d5:∀t∈o.looksAt ops,∀j,Nv ops i t=some j->S j=true:=by
   intro t ht j hj;obtain ⟨f,p,_⟩:=Tp hj;obtain ⟨xo,f3,f4⟩:=V6 p;rcases Y6 h2 f c2 f3 ho with f5|hA
   ·exact absurd ht ((Oper.apart_spec f5).1 t f4)
   ·exact s j hA
  have u:∀t∈o.looksAt ops,a1.tmps.getD t undef=Rh ops a vals i t:=by
   intro t ht;rw [c3 t ht];unfold Rh
   cases hl:Nv ops i t with
   | none=>rfl
   | some j=>exact g4 j (d5 t ht j hl)
  by_cases c:i∈eff
  ·
   have c4:∀e∈eff,A0p ops e i=true->e∈done:=λe he hA=>(s6 e he).1 (g2 e (s e (A2g hA)));have c5:i∉done:=λhd=>by have:=g3 i hd;rw [f1] at this;cases this
   have d6:i∈Vx ops eff done:=by
    unfold Vx;refine List.mem_filter.2 ⟨c,?_⟩;rw [Bool.and_eq_true];refine ⟨by simpa using c5,List.all_eq_true.2 λd hd=>?_⟩
    cases hA:A0p ops d i with
    | false=>simp
    | true=>simpa using c4 d hd hA
   cases n with
   | zero =>
    exfalso;have hp:done.length=eff.length:=by omega
    have z:∀x∈done,x∈eff:=s7;have:i∈done:=by
     exact A7z s8 z (by omega) i c
    exact c5 this
   | succ n =>
    obtain ⟨c6,f6⟩:=s11;obtain ⟨l1,l2,l3⟩:=f6 i d6;obtain ⟨o',b0,f7⟩:=c6 i d6;rw [ho] at b0
    cases b0
    have d7:=A57 (a':=a1) ((b6 i c).2 o ho) (by rw [f2,s1.size]) (λt ht=>by
     rw [u t ht,s1.slot t,Vb l1 ho t ht];rfl) f7
    refine d7.mono ?_;rintro v w' ⟨f8,hw⟩;have d8:∀j∈pre,V3 vals i v j=vals j:=λj hj=>by
     have:j≠i:=λe=>l2 (e▸hj);simp [V3,this]
    have f9:=s1.put (v:=v) h1 (by omega) l2;have g0:o.dst=dstAt ops i:=by simp [dstAt,ho]
    rw [g0] at hw;obtain ⟨vals',b',k1,k2⟩:=enter n (done++[i]) (pre++[i]) (V3 vals i v) _ w' f9 (λj hj b1=>by
      rcases List.mem_append.1 hj with hj|hj
      ·exact A1l s3 d8 hj (s2 j hj b1)
      ·simp at hj;subst hj;exact absurd c b1) (s3.snoc l1) (λj hj=>by
      rcases List.mem_append.1 hj with hj|hj
      ·exact s5 j hj
      ·simp at hj;subst hj;exact c2) (λe he=>by rw [List.mem_append,List.mem_append,s6 e he]) (λe he=>by
      rcases List.mem_append.1 he with he|he
      ·exact s7 e he
      ·simp at he;subst he;exact c) (List.nodup_append.2 ⟨s8,by simp,λx hx y hy=>by simp at hy;subst hy;exact λe=>c5 (e▸hx)⟩) (by simp;omega) (λj hj b1 d9=>by
      by_cases b2:∀e∈eff,A0p ops e j=true->e∈done
      ·exact List.mem_append_left _ (List.mem_append_left _ (s10 j hj b1 b2))
      ·refine List.mem_append_right _ ?_;unfold C0;refine List.mem_filter.2 ⟨List.mem_range.2 hj,?_⟩;have g5:A0p ops i j=true:=by
        simp only [Classical.not_forall] at b2;obtain ⟨e,he,g,b9⟩:=b2;rcases List.mem_append.1 (d9 e he g) with h'|h'
        ·exact absurd h' b9
        ·simp at h';subst h';exact g
       simp only [Bool.and_eq_true];refine ⟨⟨by simpa using b1,List.all_eq_true.2 λe he=>?_⟩,by simpa using g5⟩
       cases g:A0p ops e j with
       | false=>simp
       | true=>simpa using d9 e he g) l3 hw
    refine ⟨n,done++[i],_,vals',b',k2,f8,λj hj=>?_,λe he=>?_,λj hj=>?_⟩
    ·rcases Bool.or_eq_true _ _▸hj with hj|hj
     ·exact List.mem_append_left _ (List.mem_append_left _ (g2 j hj))
     ·rw [Nat.beq_eq] at hj;subst hj;exact List.mem_append_left _ (by simp)
    ·rcases List.mem_append.1 he with he|he
     ·simp [g3 e he]
     ·simp at he;subst he;simp
    ·rcases Bool.or_eq_true _ _▸hj with hj|hj
     ·have q:=g2 j hj;have f:j≠i:=λe=>l2 (e▸q);rw [k1 j (List.mem_append_left _ q),d8 j q];simp [V3,f,g4 j hj]
     ·rw [Nat.beq_eq] at hj;subst hj;rw [k1 j (by simp)];simp [V3]
  ·have e0:i∈pre:=s10 i c2 c (λe he hA=>(s6 e he).1 (g2 e (s e (A2g hA))));obtain ⟨o',b0,hr⟩:=s2 i e0 c;rw [ho] at b0
   cases b0
   refine .inl ((hr a1 w1 u g1).mono ?_);rintro v w' ⟨rfl,rfl⟩;refine ⟨n,done,pre,vals,b,⟨s1,s2,s3,s4,s5,s6,s7,s8,s9,s10,s11⟩,g1,λj hj=>?_,λe he=>by simp [g3 e he],λj hj=>?_⟩
   ·rcases Bool.or_eq_true _ _▸hj with hj|hj
    ·exact g2 j hj
    ·rw [Nat.beq_eq] at hj;subst hj;exact e0
   ·rcases Bool.or_eq_true _ _▸hj with hj|hj
    ·by_cases f:j=i
     ·subst f;simp [V3]
     ·simp [V3,f,g4 j hj]
    ·rw [Nat.beq_eq] at hj;subst hj;simp [V3]
 ·intro S S' σ w1 g6 hG;have:S=S':=funext g6;rw [←this];exact hG
 ·obtain ⟨vals',b',k1,k2⟩:=enter eff.length [] [] (λ_=>undef) a _ ⟨hN,rfl,λt=>by simp [lastW]⟩ (λi hi=>by simp at hi) (λpre i post e=>by simp at e) (λi hi=>by simp at hi) (λe he=>by simp) (λe he=>by simp at he) List.nodup_nil (by simp) (λi hi c hA=>by
    refine List.mem_append_right _ (List.mem_filter.2 ⟨List.mem_range.2 hi,?_⟩);simp only [Bool.and_eq_true];refine ⟨⟨by simpa using c,List.all_eq_true.2 λe he=>?_⟩,rfl⟩
    cases g:A0p ops e i with
    | false=>simp
    | true=>exact absurd (hA e he g) (by simp)) h6 h
  exact ⟨_,_,_,vals',b',k2,hD,λi hi=>by simp at hi,λe he=>by simp at he,λi hi=>by simp at hi⟩
 ·intro a' w' σ g7 d3 hG b5;obtain ⟨n,done,pre,vals,b,⟨s1,s2,s3,s4,s5,s6,s7,s8,s9,s10,s11⟩,g1,g2,g3,g4⟩:=hG;have hn:n=0:=by
   have z:∀e∈eff,e∈done:=λe he=>(s6 e he).1 (g2 e (Nat.blt_eq.mpr (b6 e he).1));have:=A2x eff done c8 z;omega
  subst hn;obtain ⟨g8,e3⟩:=s11;have g9:a'=b:=by
   have ht:a'.tmps=b.tmps:=by
    refine Array.ext (by rw [g7,s1.size]) (λt i0 i1=>?_);have e1:=b5 t;have e2:=s1.slot t;have i2:Rh ops a σ m t=(match lastW ops pre t with|some j=>vals j|none=>a.tmps.getD t undef):=by
     rw [e3 t];unfold Rh
     cases hs:Nv ops m t with
     | none=>rfl
     | some j=>exact g4 j (Nat.blt_eq.mpr (Tp hs).1)
    replace e1:a'.tmps.getD t undef=b.tmps.getD t undef:=e1.trans (i2.trans e2.symm);rw [Array.getD_eq_getD_getElem?,Array.getD_eq_getD_getElem?,Array.getElem?_eq_getElem i0,Array.getElem?_eq_getElem i1] at e1
    simpa using e1
   cases a';cases b
   simp only at ht;subst ht;have:=d3.trans s1.dfs.symm;simp only at this;rw [this]
  rw [g9];exact g8
theorem WRun.mono0 (b:∀a w,K a w->K' a w):∀{l:List Nat} {a:Act} {w:World},WRun P r ops D [] K l a w->WRun P r ops D [] K' l a w:=by
 intro l
 induction l with
 | nil=>intro a w h;exact b a w h
 | cons i l ih =>
  intro a w h;rw [WRun] at h ⊢;simp only [List.contains_nil,cond_false] at h ⊢;obtain ⟨v,c,d⟩:=h;exact ⟨v,c,ih d⟩
theorem WT.toB:∀{n:Nat} {done:List Nat} {a:Act} {w:World},WT P r ops D m eff K n done a w->WTB P r ops D m eff B K n done a w:=by
 intro n
 induction n with
 | zero=>intro done a w h;rw [WT] at h;rw [WTB];exact h
 | succ n ih =>
  intro done a w h;rw [WT] at h;rw [WTB];refine WRun.mono0 (λa w h e he=>SK.toB ?_) h;obtain ⟨o,ho,h⟩:=h e he;exact ⟨o,ho,h.mono λ_ _ h=>⟨h.1,ih h.2⟩⟩
theorem A4o (m:Nat) (eff:List Nat) (b:P.follows .mixedOrders=true) (c:(B5 ops N&&T8 ops m&&Nx ops m&&J7 ops&&Nat.ble m ops.size&&Up ops m eff eff.length [] []&&eff.all (λe=>Nat.blt e m&&(match ops[e]? with|some o=>plainOp o.op|none=>false))&&U7 eff)=true) (d:a.tmps.size=N)
  (f:D { w with drawn:=w.drawn+1 }) (h:WT P r ops D m eff (λa w=>WI P r ops Q m a w) eff.length [] a { w with drawn:=w.drawn+1 }):WP P r (.region id ops true) Q a w:=by
 refine Zd (B:=λ_ _=>False) m eff b c d (λ_ _ _ _ h=>h.elim) f (WT.toB h)
theorem WRun.mono (b:∀a w,K a w->K' a w) {l:List Nat} (h:WRun P r ops D [] K l a w):WRun P r ops D [] K' l a w:=WRun.mono0 b h
theorem SK.mono (b:∀a w,K a w->K' a w) (h:SK P r ops k K a w):SK P r ops k K' a w:=by
 obtain ⟨o,ho,h⟩:=h;exact ⟨o,ho,h.mono λ_ _=>b _ _⟩
theorem WT.mono (b:∀a w,K a w->K' a w):∀{n:Nat} {done:List Nat} {a:Act} {w:World},WT P r ops D m eff K n done a w->WT P r ops D m eff K' n done a w:=by
 intro n
 induction n with
 | zero=>intro done a w h;rw [WT] at h ⊢;exact WRun.mono b h
 | succ n ih =>
  intro done a w h;rw [WT] at h ⊢;exact WRun.mono (λa w h e he=>(h e he).mono λa w h=>⟨h.1,ih h.2⟩) h
theorem A3m (m:Nat) (eff:List Nat) (J:Act->World->Prop) (b:P.follows .mixedOrders=true) (c:(B5 ops N&&T8 ops m&&Nx ops m&&J7 ops&&Nat.ble m ops.size&&Up ops m eff eff.length [] []&&eff.all (λe=>Nat.blt e m&&(match ops[e]? with|some o=>plainOp o.op|none=>false))&&U7 eff)=true) (d:a.tmps.size=N)
  (f:D { w with drawn:=w.drawn+1 }) (h:WT P r ops D m eff J eff.length [] a { w with drawn:=w.drawn+1 }) (g:∀a w,J a w->WI P r ops Q m a w):WP P r (.region id ops true) Q a w :=
 A4o m eff b c d f (WT.mono g h)
theorem WT.z (rs:List Nat) (b:C0 ops m eff done=rs) (h:WRun P r ops D [] K rs a w):WT P r ops D m eff K 0 done a w:=by rw [WT,b];exact h
theorem WT.s (rs es:List Nat) (b:C0 ops m eff done=rs) (c:Vx ops eff done=es)
  (h:WRun P r ops D [] (λa w=>∀e∈es,SK P r ops e (λa' w'=>D w'/\WT P r ops D m eff K n (done++[e]) a' w') a w) rs a w):WT P r ops D m eff K (n+1) done a w:=by rw [WT,b,c];exact h
theorem Bu {p:Nat->Prop}:∀e∈([]:List Nat),p e:=λe h=>by simp at h
theorem all_cons {p:Nat->Prop} {x:Nat} {l:List Nat} (h:p x) (t:∀e∈l,p e):∀e∈x::l,p e:=λe he=>by
 rcases List.mem_cons.1 he with rfl|he
 ·exact h
 ·exact t e he
theorem Bn (m:Nat) (eff:List Nat) (J:Act->World->Prop) (b:P.follows .mixedOrders=true) (c:(B5 ops N&&T8 ops m&&Nx ops m&&J7 ops&&Nat.ble m ops.size&&Up ops m eff eff.length [] []&&eff.all (λe=>Nat.blt e m&&(match ops[e]? with|some o=>plainOp o.op|none=>false))&&U7 eff)=true) (d:a.tmps.size=N)
  (h:∀w1,Ext w w1->D w1/\WT P r ops D m eff J eff.length [] a w1) (f:∀a w,J a w->WI P r ops Q m a w):WP P r (.region id ops true) Q a w :=
 A3m m eff J b c d (h _ (Wc w)).1 (h _ (Wc w)).2 f
theorem WTB.z (rs:List Nat) (b:C0 ops m eff done=rs) (h:WRun P r ops D [] K rs a w):WTB P r ops D m eff B K 0 done a w:=by rw [WTB,b];exact h
theorem WTB.s (rs es:List Nat) (b:C0 ops m eff done=rs) (c:Vx ops eff done=es)
  (h:WRun P r ops D [] (λa w=>∀e∈es,SKB P r ops e B (λa' w'=>D w'/\WTB P r ops D m eff B K n (done++[e]) a' w') a w) rs a w):WTB P r ops D m eff B K (n+1) done a w:=by rw [WTB,b,c];exact h
theorem Sw (m:Nat) (eff:List Nat) (b:P.follows .mixedOrders=true) (c:(B5 ops N&&T8 ops m&&Nx ops m&&J7 ops&&Nat.ble m ops.size&&Up ops m eff eff.length [] []&&eff.all (λe=>Nat.blt e m&&(match ops[e]? with|some o=>plainOp o.op|none=>false))&&U7 eff)=true) (d:a.tmps.size=N)
  (f:∀ch a' w,a'.defers=a.defers->B ch w->Q (.panic ch) a' w) (h:∀w1,Ext w w1->D w1/\WTB P r ops D m eff B (λa w=>WI P r ops Q m a w) eff.length [] a w1):WP P r (.region id ops true) Q a w :=
 Zd m eff b c d f (h _ (Wc w)).1 (h _ (Wc w)).2
theorem A7g {f:FuncId} {c:Code} (d:P.funcs[f]? = some fn) (hb:fn.body=some c) (N:Nat) (M:List (Nat×Value)) (e:fn.ntmps=N)
  (b:Nat.ble args.size N=true) (g:M.map (λp=>(args++Array.replicate (N-args.size) undef).getD p.1 undef)=M.map Prod.snd) (h:∀a w1,w1=w->Fr N [] M a->WP P none c (bodyPost P fn R) a w1):Calls P f args w R :=
 A99 d hb N M e b g λa=>h a w rfl
theorem B40 {cs:List Cd} {s:Sem Value} (h:Bi cs=false):Ob.ok P T D (.run cs s v):=λb=>by rw [h] at b;cases b
theorem A17 {cs:List Cd} {i:Nat} {c:Cd} (hi:cs[i]? = some c) (h:(c.p==c.want)=false):Bi cs=false:=by
 cases b:Bi cs with
 | false=>rfl
 | true =>
  have:=A0f.1 b c (List.mem_of_getElem? hi);rw [this] at h;simp at h
end
section
theorem B03 {g:Nat} {ps:Array Tmp} {assign body:Code} {gf:FuncId} {lb:Array Value} (args:Nat->Array Value) (N1:List Res->Prop) (N2:Code->List Res->Prop) (hF:Fr N ds M a) (r:lookM M g=some (.func (.func gf) #[] lb)) (s:St w0 H w)
  (b:∀l,#[.func (.yield l) #[] #[]]++lb=args l) (k:∀args,pureSem P (callFunc gf args)=some (.enter gf args))
  (d:∀fn l D rec w1,rec=B1y a ps assign body D fn->St w0 (Fm l (rec .ready none)::Fm D (.deferred (some []))::H) w1 ->
   Calls P gf (args l) w1 (λe w3=>∃v,e=.returned v /\
    ((∃H1,N1 H1/\St w0 (Fm l (rec .ready none)::Fm D (.deferred (some []))::H1) w3)\/∃c H2,N2 c H2/\St w0 (Fm l (rec .done (some c))::Fm D (.deferred (some []))::H2) w3)))
  (f:∀D a' w' H1,N1 H1->Fr N (⟨.collected D,#[]⟩::ds) M a'->St w0 (Fm D (.deferred (some []))::H1) w'->Q .normal a' w')
  (j:∀D c a' w' H2,N2 c H2->Fr N (⟨.collected D,#[]⟩::ds) M a'->St w0 (Fm D (.deferred (some []))::H2) w'->WP P none c Q a' w'):WP P none (.rangeFunc (.tmp g) ps assign body) Q a w:=by
 refine wpIn_rangeFunc ?_;intro fn t;rw [show (F0 none).round=none from rfl];obtain ⟨W1,m⟩:∃W1,(w.alloc (.deferred (some []))).alloc (B1y a ps assign body w.heap.size fn .ready none)=W1:=⟨_,rfl⟩;have u:(Instr.enterLoop fn a.tmps ps assign body none).run P w=.ok (w.heap.size+1,[{ target:=.collected w.heap.size,args:=#[] }]) W1:=by rw [←m];exact run_enterLoop_outer _ _ _ _ _
 refine ⟨w.heap.size+1,[{ target:=.collected w.heap.size,args:=#[] }],W1,{ target:=.fn (.func gf) lb,args:=#[.func (.yield (w.heap.size+1)) #[] #[]] },W1,gf,
  #[.func (.yield (w.heap.size+1)) #[] #[]]++lb,W1,u,?_,λ_ _=>trivial,?_,λh=>by simp [F0,Fence.wide] at h,?_⟩
 ·have n:a.eval (.tmp g)=.func (.func gf) #[] lb:=hF.get r;simp only [resolve,n];simp [go_sem]
 ·simp only [invoke];exact Ba _ _ (k _) _
 ·rw [b];refine Pz.2 (Calls.mono (d fn (w.heap.size+1) w.heap.size _ W1 rfl ?_) ?_)
  ·rw [←m];have x:=(s.allocObj (.deferred (some []))).allocObj (B1y a ps assign body w.heap.size fn .ready none)
   simpa using x
  ·rintro e w3 ⟨v,rfl,h⟩;have fr:Fr N (⟨.collected w.heap.size,#[]⟩::ds) M { a with defers:=[{ target:=.collected w.heap.size,args:=#[] }]++a.defers }:=⟨hF.size,by simp [hF.defers],hF.slot⟩;rcases h with ⟨H1,o,h⟩|⟨c,H2,p,h⟩
   ·have q:=h.res (i:=0) rfl;refine ⟨none,_,run_endLoop (P:=P) q (by simp),?_⟩;exact f _ _ _ _ o fr (h.putObj (i:=0) _ rfl).drop1
   ·have q:=h.res (i:=0) rfl;refine ⟨some c,_,run_endLoop (P:=P) q (by simp),?_⟩;exact j _ c _ _ _ p fr (h.putObj (i:=0) _ rfl).drop1
theorem A1d {f:FuncId} {c:Code} (d:P.funcs[f]? = some fn) (hb:fn.body=some c) (N:Nat) (M:List (Nat×Value)) (e:fn.ntmps=N)
  (b:Nat.ble args.size N=true) (g:M.map (λp=>(args++Array.replicate (N-args.size) undef).getD p.1 undef)=M.map Prod.snd) (h:∀a w1,w1=w->Fr N (Tx []) M a->WP P none c (bodyPostM (F0 none) 0 P fn R) a w1):Calls P f args w R :=
 A7f d hb N M e b g λa=>h a w rfl
end
section
variable {A R G:List Res} {f:Res}
theorem St.rot (A:List Res) (h:St w0 (A++(f::(R++G))) w):St w0 (f::(R++(G++A))) w :=
 h.perm (by
  have:(A++(f::(R++G))).Perm ((f::(R++G))++A):=List.perm_append_comm
  simpa [List.append_assoc] using this)
theorem St.unrot (A:List Res) (h:St w0 (f::(R++(G++A))) w):St w0 (A++(f::(R++G))) w :=
 h.perm (by
  have:((f::(R++G))++A).Perm (A++(f::(R++G))):=List.perm_append_comm
  simpa [List.append_assoc] using this)
end
structure EndsC (P:Program) (ops:Array Oper) (n k:Nat) (M:List (Nat×Value)) (M':List (Nat×En)) (obs:List Ob):Prop where
 eq:((evalSeg P ops n k (ofM M) (obs.map Ob.v)).map λx=>(M'.map (λp=>lookE x.1 p.1),x.2))=some (M'.map (λp=>some p.2),obs)
section
variable {M':List (Nat×En)}
theorem A5l (l:Trans T) (h:EndsC P ops n k M M' obs) (m:(M'.all λp=>Bi p.2.conds)=true) (D:World->Prop) (e:Obs P T D obs):∃(Φ:List Asn),Φ.length=n/\Seg P r ops T D Φ k (toA (ofM M))/\(∀φ∈Φ,Yo T φ) /\
  ∀a' w',a'.tmps.size=N->a'.defers=ds->EnvOk (Zs ops Φ k (toA (ofM M))) a' w'->Fr N ds (M'.map λp=>(p.1,p.2.v)) a':=by
 have h:=h.eq
 cases b:evalSeg P ops n k (ofM M) (obs.map Ob.v) with
 | none=>rw [b] at h;simp at h
 | some x =>
  obtain ⟨E',obs'⟩:=x;rw [b] at h;simp only [Option.map_some,Option.some.injEq,Prod.mk.injEq] at h;obtain ⟨o,rfl⟩:=h;obtain ⟨Φ,s,c,f,d⟩:=Yy (r:=r) l n k _ _ _ _ b (Yv M) e;refine ⟨Φ,s,c,f,λa' w' t hd i=>⟨t,hd,?_⟩⟩;intro q u;obtain ⟨p,j,rfl⟩:=List.mem_map.1 u;rw [d] at i;have g:lookE E' p.1=some p.2:=List.map_inj_left.1 o p j;have:=i p.1 (λv _=>v=p.2.val) (by rw [Q8,g];rfl);have y:=List.all_eq_true.1 m p j
  simpa [En.val,y] using this
theorem Xv (k':Nat) (M':List (Nat×En)) (hF:Fr N ds M a) (c:B5 ops N=true) (f:Obs P (λa b=>b=a) (λx=>x=w) obs) (h:EndsC P ops n k M M' obs) (i:(M'.all λp=>Bi p.2.conds)=true) (j:k+n=k')
  (next:∀a',Fr N ds (M'.map λp=>(p.1,p.2.v)) a'->WI P r ops Q k' a' w):WI P r ops Q k a w:=by
 obtain ⟨Φ,l,d,g,e⟩:=A5l (r:=r) (N:=N) (ds:=ds) X3 h i (λx=>x=w) f;refine A3s X3 (λ_ _ h k=>k.trans h) c Φ k _ a w d g (X0 _ _) rfl hF.size (Us hF w) ?_;intro a' w' m o hd q;subst m;rw [l,j];exact next a' (e a' w' o (hd.trans hF.defers) q)
end
def B07:List Value->Value|[v]=>v|vs=>.tuple vs.toArray
def exc {ε α β:Type} (y:Except ε α) (f:ε->β) (g:α->β):β:=match y with|.error e=>f e|.ok x=>g x
theorem Q0 {ε:Type} {y:Except ε α} {e:ε} {f:ε->β} {g:α->β} {z:β} (h:exc y f g=z) (b:y=.error e):f e=z:=by subst b;exact h
theorem Q1 {ε:Type} {y:Except ε α} {f:ε->β} {g:α->β} {z:β} (h:exc y f g=z) (b:y=.ok x):g x=z:=by subst b;exact h
section
theorem WI.consQ {i:Nat} (ho:ops[i]? = some o) (b:Region.wanted o (yielded ops a.tmps)=true)
  (h:o.wpIn (F0 r) 0 P a w (λa w=>WI P r ops Q (i+1) a w) Q):WI P r ops Q i a w:=by
 have hi:i<ops.size:=(Array.getElem?_eq_some_iff.1 ho).1;have e:List.range' i (ops.size-i)=i::List.range' (i+1) (ops.size-(i+1)):=by
  rw [show ops.size-i=(ops.size-(i+1))+1 by omega,List.range'_succ]
 unfold WI;rw [e,wpOpsIn_cons];unfold Go.wpOpIn;rw [ho];simp only [b,if_true];exact h
theorem B4u (M':Value->List (Nat×Value)) {f:FuncId} {R:Value->World->Prop} {Rp:List PanicEntry->World->Prop} (hF:Fr N ds M a) (b:B5 ops N=true) (hs:CallAt P ops k M f args)
  (g:Calls P f args w (λe w'=>(∃v,e=.returned v/\R v w')\/∃ch,e=.panicked ch/\Rp ch w')) (i:∀v,NextM ops k M v (M' v))
  (j:∀ch w',Rp ch w'->Q (.panic ch) a w')
  (next:∀v w' a',R v w'->Fr N ds (M' v) a'->WI P r ops Q (k+1) a' w'):WI P r ops Q k a w:=by
 have hs:=hs.eq
 cases ho:plainAt ops k M with
 | none=>rw [ho] at hs;simp at hs
 | some o =>
  rw [ho] at hs;simp only [Option.bind_some] at hs
  split at hs
  ·rename_i f' args' c
   simp at hs;obtain ⟨rfl,rfl⟩:=hs;obtain ⟨d,l,m⟩:=Jc (r:=r) ho hF;refine WI.consQ d l ⟨λ_ _=>trivial,?_⟩
   change o.uponIn (F0 r) 0 P a _ Q ((o.semAt r a.eval).run P w)
   rw [m,Ba _ _ c w];refine ⟨λh=>by simp [F0,Fence.wide] at h,Pz.2 (Calls.mono g ?_)⟩;rintro e w'' (⟨v,rfl,hv⟩|⟨ch,rfl,hv⟩)
   ·exact next v w'' _ hv (Hl d b hF (i v))
   ·exact j ch w'' hv
  ·simp at hs
structure PanicAt (ops:Array Oper) (k:Nat) (M:List (Nat×Value)) (t:TypeId) (v:Value):Prop where
 eq:((plainAt ops k M).bind λo=>match o.op with|.panic x=>some (rhoE (ofM M) x)|_=>none)=some (.iface t v)
theorem B4c {t:TypeId} (hF:Fr N ds M a) (hs:PanicAt ops k M t v) (h:Q (.panic [{ v:=.iface t v,recovered:=false }]) a w):WI P r ops Q k a w:=by
 have hs:=hs.eq
 cases ho:plainAt ops k M with
 | none=>rw [ho] at hs;simp at hs
 | some o =>
  rw [ho] at hs;simp only [Option.bind_some] at hs
  split at hs
  ·rename_i x b
   simp only [Option.some.injEq] at hs;obtain ⟨c,d,e⟩:=Jc (r:=r) ho hF;refine WI.consQ c d ⟨λ_ _=>trivial,?_⟩
   change o.uponIn (F0 r) 0 P a _ Q ((o.semAt r a.eval).run P w)
   have:(execOp (rhoE (ofM M)) o).run P w=.halt (.panic (.iface t v)) w:=by
    unfold execOp;rw [b];simp [Instr.panic,hs,goPanic]
   rw [e,this];exact h
  ·simp at hs
theorem Cp (hF:Fr N [] M a) (hR:R (.panicked ch) w):bodyPost P fn R (.panic ch) a w:=⟨hF.defers,hR⟩
structure DeferAt (P:Program) (ops:Array Oper) (k:Nat) (M:List (Nat×Value)) (d:Deferred):Prop where
 eq:((ops[k]?).bind λo=>match o.guard with
  | none=>bif o.op.operands.toList.all (okOperand (ofM M) [])&&(match o.op with|.defer _=>true|_=>false) then (match pureSem P (execOp (rhoE (ofM M)) o) with|some (.defer d)=>some d|_=>none) else none
  | some _=>none)=some d
theorem B3j (k':Nat) (d:Deferred) (M':List (Nat×Value)) (hF:Fr N ds M a) (i:B5 ops N=true) (hs:DeferAt P ops k M d) (p:NextM ops k M undef M') (q:k+1=k')
  (next:∀a',Fr N (d::ds) M' a'->WI P none ops Q k' a' w):WI P none ops Q k a w:=by
 subst q;have hs:=hs.eq
 cases ho:ops[k]? with
 | none=>rw [ho] at hs;simp at hs
 | some o =>
  rw [ho] at hs;simp only [Option.bind_some] at hs
  cases j:o.guard with
  | some g=>rw [j] at hs;simp at hs
  | none =>
   rw [j] at hs;simp only at hs
   cases f:(o.op.operands.toList.all (okOperand (ofM M) [])&&(match o.op with|.defer _=>true|_=>false)) with
   | false=>rw [f] at hs;simp at hs
   | true =>
    rw [f] at hs;simp only [cond_true] at hs
    split at hs
    ·rename_i d' l
     simp only [Option.some.injEq] at hs;subst hs;rw [Bool.and_eq_true,List.all_eq_true] at f;have m:execOp a.eval o=execOp (rhoE (ofM M)) o:=by
      refine execOp_congr o (λcs b r=>by have:=f.2;rw [r] at this;simp at this) ?_;intro x s;refine L7 (cur:=[]) (Yv M) (λc f=>by simp at f) rfl (f.1 x (by simpa using s)) ?_;intro t _ e he;obtain ⟨u,v⟩:=Xd he;have:=hF.slot _ v;simp only at this;rw [this];simp [En.val,u,Bi]
     refine WI.consQ ho (by simp [Region.wanted,j]) ⟨λ_ _=>trivial,?_⟩
     change o.uponIn (F0 none) 0 P a _ Q ((o.semAt none a.eval).run P w)
     rw [Oper.semAt_none,m,Ba _ _ l w];have n:Fr N (d'::ds) M { a with defers:=d'::a.defers }:=⟨hF.size,by simp [hF.defers],hF.slot⟩;exact next _ (Hl ho i n p)
    ·simp at hs
theorem A7e {f:FuncId} {c:Code} (e:P.funcs[f]? = some fn) (hb:fn.body=some c) (N:Nat) (M:List (Nat×Value)) (d:fn.ntmps=N)
  (b:Nat.ble args.size N=true) (g:M.map (λp=>(args++Array.replicate (N-args.size) undef).getD p.1 undef)=M.map Prod.snd) (h:∀a w1,w1=w->Fr N [] M a->WP P none c (bodyPostDIn (F0 none) 0 P fn R) a w1):Calls P f args w R:=by
 refine Pz (r:=none) (n:=0) |>.1 (callsIn_of_wp_defers e hb trivial ?_ rfl);refine h _ _ rfl ⟨?_,rfl,λp i=>?_⟩
 ·have:=Nat.le_of_ble_eq_true b;simp [d];omega
 ·rw [d];exact List.map_inj_left.1 g p i
theorem A3n (rs:List ResultVar) (vs:List Value) (hF:Fr N ds M a) (b:fn.results=rs.toArray) (h:Xo P w M rs vs) :
  (results fn a.tmps).run P w=.ok (B07 vs) w:=by
 have hm:=A05 (a:=a) rs vs h hF;have e:results fn a.tmps=(do let vs ←fn.results.mapM (Ye a.tmps);pure (if h:vs.size=1 then vs[0] else .tuple vs)):=by
  unfold results
  congr 1
 rw [e,b,List.mapM_toArray];simp [hm];rcases vs with _|⟨v,_|⟨u,vs⟩⟩<;>simp [B07]
theorem A9a (rs:List ResultVar) (vs:List Value) (hF:Fr N [] M a) (b:fn.results=rs.toArray) (h:Xo P w M rs vs)
  (hR:R (.returned (B07 vs)) w):bodyPostDIn (F0 none) 0 P fn R .ret a w:=by
 show LeavesIn (F0 none) 0 P fn a.tmps R a.defers .returning w;rw [hF.defers];exact ⟨_,A3n rs vs hF b h,hR⟩
theorem A4c {fv:Nat} {cap:Array Value} (rs:List ResultVar) (hF:Fr N [⟨.fn (.func fv) cap,#[]⟩] M a) (c:fn.results=rs.toArray) (b:∀args,pureSem P (callFunc fv args)=some (.enter fv args))
  (h:CallsDIn (F0 none) 0 P fv cap .returning w λe u' w'=>∃v,e=.returned v/\settle u'=.returning/\∃vs,Xo P w' M rs vs/\R (.returned (B07 vs)) w'):bodyPostDIn (F0 none) 0 P fn R .ret a w:=by
 show LeavesIn (F0 none) 0 P fn a.tmps R a.defers .returning w;rw [hF.defers];refine leavesIn_cons (f:=fv) (args:=cap) (by simp) (λh=>by simp [F0,Fence.wide] at h) ?_ (λ_ _=>trivial) (CallsDIn.mono h ?_)
 ·simp only [invoke];rw [show (#[]:Array Value)++cap=cap by simp];exact Ba _ _ (b cap) w
 ·rintro e u' w' ⟨v,rfl,d,vs,g,hR⟩;show LeavesIn (F0 none) 0 P fn a.tmps R [] (settle u') w';rw [d];exact ⟨_,A3n rs vs hF c g,hR⟩
theorem A5p {fv:Nat} {cap:Array Value} (rs:List ResultVar) (hF:Fr N [⟨.fn (.func fv) cap,#[]⟩] M a) (c:fn.results=rs.toArray) (b:∀args,pureSem P (callFunc fv args)=some (.enter fv args))
  (h:CallsDIn (F0 none) 0 P fv cap (.panicking ch) w λe u' w'=>∃v,e=.returned v/\settle u'=.returning/\∃vs,Xo P w' M rs vs/\R (.returned (B07 vs)) w'):bodyPostDIn (F0 none) 0 P fn R (.panic ch) a w:=by
 show LeavesIn (F0 none) 0 P fn a.tmps R a.defers (.panicking ch) w;rw [hF.defers];refine leavesIn_cons (f:=fv) (args:=cap) (by simp) (λh=>by simp [F0,Fence.wide] at h) ?_ (λ_ _=>trivial) (CallsDIn.mono h ?_)
 ·simp only [invoke];rw [show (#[]:Array Value)++cap=cap by simp];exact Ba _ _ (b cap) w
 ·rintro e u' w' ⟨v,rfl,d,vs,g,hR⟩;show LeavesIn (F0 none) 0 P fn a.tmps R [] (settle u') w';rw [d];exact ⟨_,A3n rs vs hF c g,hR⟩
def A0r:FrameMode->Value
 | .panicking ({ v,recovered:=false,goexit:=false }::_)=>v
 | _=>.nilIface
def Wo:FrameMode->FrameMode
 | .panicking ({ v,recovered:=false,goexit:=false }::older)=>.panicking ({ v,recovered:=true }::older)
 | u=>u
theorem A4n (c:Frame) (cs:List Frame):(recoverD (c::cs)=some (A0r c.mode,{ c with mode:=Wo c.mode }::cs))\/(recoverD (c::cs)=none/\A0r c.mode=.nilIface/\Wo c.mode=c.mode):=by
 cases hm:c.mode with
 | run=>exact .inr (by simp [recoverD,A0r,Wo,hm])
 | returning=>exact .inr (by simp [recoverD,A0r,Wo,hm])
 | panicking l =>
  cases l with
  | nil=>exact .inr (by simp [recoverD,A0r,Wo,hm])
  | cons x l =>
   obtain ⟨v,rc,ge⟩:=x
   cases rc<;>cases ge
   ·exact .inl (by simp [recoverD,A0r,Wo,hm])
   ·exact .inr (by simp [recoverD,A0r,Wo,hm])
   ·exact .inr (by simp [recoverD,A0r,Wo,hm])
   ·exact .inr (by simp [recoverD,A0r,Wo,hm])
structure RecAt (P:Program) (ops:Array Oper):Prop where
 eq:((ops[0]?).map λo=>(o.guard.isNone,match pureSem P (execOp (λ_=>undef) o) with|some .recover=>true|_=>false,o.op.operands.size,plainOp o.op))=some (true,true,0,true)
theorem Wa {f:FuncId} {rest:Code} {u:FrameMode} {R:Ending->FrameMode->World->Prop} (hf:P.funcs[f]? = some fn) (hb:fn.body=some (.seq (.region id ops false) rest)) (N:Nat) (M M':List (Nat×Value)) (hN:fn.ntmps=N)
  (b8:Nat.ble args.size N=true) (hM:M.map (λp=>(args++Array.replicate (N-args.size) undef).getD p.1 undef)=M.map Prod.snd) (t:B5 ops N=true) (hs:RecAt P ops) (b9:NextM ops 0 M (A0r u) M')
  (h:∀a,Fr N [] M' a->WI P none ops (Exit.then (WP P none rest (bodyPost P fn λe w=>R e (Wo u) w)) (bodyPost P fn λe w=>R e (Wo u) w)) 1 a w):CallsDIn (F0 none) 0 P f args u w R:=by
 have hs:=hs.eq
 cases ho:ops[0]? with
 | none=>rw [ho] at hs;simp at hs
 | some o =>
 rw [ho] at hs;simp only [Option.map_some,Option.some.injEq,Prod.mk.injEq] at hs;obtain ⟨s,n,c0,y⟩:=hs;have z:Fr N [] M { tmps:=args++Array.replicate (fn.ntmps-args.size) undef,defers:=[] }:=by
  refine ⟨?_,rfl,λp hp=>?_⟩
  ·have:=Nat.le_of_ble_eq_true b8;simp [hN];omega
  ·rw [hN];exact List.map_inj_left.1 hM p hp
 refine callsDIn_of_wpSIn hf hb trivial λc₀ cs hu=>wpSIn_seq ?_;generalize ({ tmps:=args++Array.replicate (fn.ntmps-args.size) undef,defers:=[] }:Act)=a at z;have c3:Region.wanted o (yielded ops a.tmps)=true:=by
  cases b0:o.guard with
  | none=>simp [Region.wanted,b0]
  | some g=>rw [b0] at s;simp at s
 have c4:execOp a.eval o=execOp (λ_=>undef) o:=by
  refine execOp_congr o (λcs b hh=>by rw [hh] at y;simp [plainOp] at y) ?_;intro x hx;have:o.op.operands=#[]:=Array.eq_empty_of_size_eq_zero c0;rw [this] at hx;simp at hx
 have q:(execOp a.eval o).run P w=.ok .recover w:=by
  rw [c4]
  split at n
  ·rename_i hp;exact Ba _ _ hp w
  ·simp at n
 have hi:0<ops.size:=(Array.getElem?_eq_some_iff.1 ho).1;have i:List.range ops.size=0::List.range' 1 (ops.size-1):=by
  rw [List.range_eq_range',show ops.size=(ops.size-1)+1 by omega,List.range'_succ];simp
 intro b k c5 j b1 d;have hq:=h (a.put o.dst (A0r u)) (Hl ho t z b9);have b2:∀cs',cs'={ c₀ with mode:=Wo u }::cs->step P (lone (b.atR a (.inRegion ops (List.range ops.size)::k)) (c₀::cs) w)=.next (lone (b.atR (a.put o.dst (A0r u)) (.inRegion ops (List.range' 1 (ops.size-1))::k)) cs' w):=by
  rintro cs' rfl;rw [i];have s:=stepGR_op (P:=P) (b:=b) (k:=k) (cs:=c₀::cs) (w:=w) (rest:=List.range' 1 (ops.size-1)) ho c3;rw [j,Oper.semAt_none] at s;have r:∀v,(b.atR a (.inRegion ops (0::List.range' 1 (ops.size-1))::k)).finish v=b.atR (a.put o.dst v) (.inRegion ops (List.range' 1 (ops.size-1))::k):=by
   intro v;rw [Frame.finish_atR,ho];rfl
  have hk:(b.atR a (.inRegion ops (0::List.range' 1 (ops.size-1))::k)).kind=.deferred:=c5;have m:=tryRecover_deferred hk (c₀::cs);rcases A4n c₀ cs with hr|⟨hr,hv,hm⟩
  ·rw [hu] at hr;refine step_lone_go ?_;rw [s,←r];simp only [Frame.atR,j] at m ⊢;simp [stepG.apply,q,m,hr]
  ·rw [hu] at hv hm;have hc:({ c₀ with mode:=Wo u }:Frame)=c₀:=by rw [hm,←hu]
   refine step_lone_go ?_;rw [s,hc,hv,←r];simp only [Frame.atR,j] at m ⊢;simp [stepG.apply,q,m,hr]
 obtain ⟨e,a',w',c,b3⟩:=wp_opsIn _ _ _ hq b k ({ c₀ with mode:=Wo u }::cs) j b1 d;refine ⟨e,a',{ c₀ with mode:=Wo u }::cs,w',rfl,?_,.of_steps (StepsIn.trans (.one (fenced_calm b1 d rfl) stepR_region) (.one (X8 _ _ _) (b2 _ rfl))) b3⟩;have hB:∀e a w,bodyPost P fn (λe w=>R e (Wo u) w) e a w->bodyPostS P fn c₀ cs R e a ({ c₀ with mode:=Wo u }::cs) w:=by
  intro e a w hb
  cases e with
  | normal=>obtain ⟨h1,v,h2,h3⟩:=hb;exact ⟨h1,_,rfl,v,h2,h3⟩
  | ret=>obtain ⟨h1,v,h2,h3⟩:=hb;exact ⟨h1,_,rfl,v,h2,h3⟩
  | panic ch=>obtain ⟨h1,h2⟩:=hb;exact ⟨h1,_,rfl,h2⟩
  | outgrown=>exact ⟨_,hb⟩
  | exit id=>exact hb.elim
  | goto l=>exact hb.elim
 cases e with
 | normal=>exact wpSIn_of_wpIn rfl (wpIn_mono c λe a w h=>hB e a w h)
 | ret=>exact hB .ret _ _ c
 | panic ch=>exact hB (.panic ch) _ _ c
 | outgrown=>exact hB .outgrown a' w' c
 | exit id=>exact c.elim
 | goto l=>exact c.elim
end
section
end
section
variable {H:Type} {enc:TypeId×Value->H} {t e:TypeId} {cs:List Value}
def Reads (enc:TypeId×Value->H) (P:Program) (w:World) (t:TypeId) (cs:List Value):Prop:=∃fuel d,DataW.trod enc P w 0 (λ_=>true) true fuel t cs=some d
theorem Reads.of {d:DataW H} {p:List MemPlace} (h:DataW.Trod enc P w 0 (λ_=>true) true t v d p):Reads enc P w t v.cells.toList:=by
 obtain ⟨f,h⟩:=h;exact ⟨f,_,h⟩
theorem Reads.int {k:IntKind} (ht:P.underlying t=some (.int k)) (h:Reads enc P w t cs):∃n,cs=[.int k n]/\(Lit.int k n).wf=true:=by
 obtain ⟨f,d,h⟩:=h;obtain ⟨n,b,_,c⟩:=DataW.trod_int ht h;exact ⟨n,b,c⟩
theorem Reads.len (ht:P.underlying t=some (.struct fs)) (h:Reads enc P w t cs):cs.length=P.cellsOf t:=by
 obtain ⟨f,d,h⟩:=h;obtain ⟨_,_,_,_,b,_⟩:=DataW.trod_struct ht h;exact b
theorem Reads.field (ht:P.underlying t=some (.struct fs)) (h:Reads enc P w t cs) (i:Nat) {f:Field} (c:fs[i]? = some f) (m:Nat) (hm:P.cellsOf f.type=m):Reads enc P w f.type ((cs.drop f.offset).take m):=by
 obtain ⟨fu,d,h⟩:=h;obtain ⟨xs,n,_,_,_,e,b⟩:=DataW.trod_struct ht h;have hi:i<fs.size:=(Array.getElem?_eq_some_iff.1 c).1;have:=b i f c;rw [List.getElem?_eq_getElem (by omega),hm] at this;exact ⟨n,_,this⟩
theorem Reads.arrLen (ht:P.underlying t=some (.array n e)) (h:Reads enc P w t cs):cs.length=P.cellsOf t:=by
 obtain ⟨f,d,h⟩:=h;obtain ⟨_,_,_,_,b,_⟩:=DataW.trod_array ht h;exact b
theorem Reads.part (ht:P.underlying t=some (.array n e)) (h:Reads enc P w t cs) (i:Nat) (hi:i<n) (m:Nat) (hm:P.cellsOf e=m):Reads enc P w e ((cs.drop (i*m)).take m):=by
 obtain ⟨fu,d,h⟩:=h;obtain ⟨xs,q,_,_,_,c,b⟩:=DataW.trod_array ht h;have:=b i hi;rw [List.getElem?_eq_getElem (by omega),hm] at this;exact ⟨q,_,this⟩
theorem W9 {R:β->α->Prop} {ok:α->Prop}:∀(css:List β),(∀c∈css,∃x,R c x/\ok x)->∃l,All2 R css l/\∀x∈l,ok x
 | [],_=>⟨[],.nil,by simp⟩
 | c::css,h=>by
  obtain ⟨x,d,e⟩:=h c (by simp);obtain ⟨l,f,b⟩:=W9 css (λc g=>h c (by simp [g]));exact ⟨x::l,.cons d f,by simpa using ⟨e,b⟩⟩
theorem Reads.row (ht:P.underlying t=some (.slice e)) (s:P.cellsOf e=sz) (h0:0<sz) (h:Reads enc P w t cs) :
  ∃(ad:Option Addr) (cap:Nat) (css:List (List Value)),cs=[.slice ad css.length cap]/\ArrM (D9 w) sz (fN sz) ad cap css/\∀c∈css,c.length=sz/\Reads enc P w e c:=by
 obtain ⟨f,d,h⟩:=h;rcases DataW.trod_slice ht h with ⟨rfl,_⟩|⟨a,len,cap,elems,rest,n,_,rfl,_,_,hl,hm,z,o,_,_⟩
 ·exact ⟨none,0,[],rfl,ArrM.nil,by simp⟩
 ·rw [s] at o;have k:∀i,i<len->∃c,w.cells? 0 (a.add (i*sz)) sz=some c/\Reads enc P w e c:=by
   intro i hi;have:=o i hi;rw [List.getElem?_eq_getElem (by omega),Option.bind_eq_some_iff] at this;obtain ⟨c,b,m⟩:=this;exact ⟨c,b,n,_,m⟩
  let css:=(List.range len).map λi=>(w.cells? 0 (a.add (i*sz)) sz).getD []
  have p:css.length=len:=by simp [css]
  have q:∀i,i<len->∃c,css[i]? = some c/\w.cells? 0 (a.add (i*sz)) sz=some c/\Reads enc P w e c:=by
   intro i hi;obtain ⟨c,b,m⟩:=k i hi;exact ⟨c,by simp [css,hi,b],b,m⟩
  have g:∀c∈css,c.length=sz/\Reads enc P w e c:=by
   intro c v;obtain ⟨i,hi,he⟩:=List.mem_iff_getElem.1 v;obtain ⟨c',b,m,h3⟩:=q i (by omega);rw [List.getElem?_eq_getElem hi,he] at b;obtain rfl:=Option.some.inj b;exact ⟨(World.cells?_some m).2.1,h3⟩
  refine ⟨some a,cap,css,by rw [p],Arr.toM ⟨rfl,some a,cap,rfl,?_,by omega,hm,λhn=>⟨a,rfl,?_,?_⟩⟩,g⟩
  ·exact Pe (Ah sz) css
  ·obtain ⟨c,b,_⟩:=k 0 (by omega);have:=World.cells?_block b h0
   simpa [Addr.add] using this
  ·intro j u hj;have x:j<(css.flatMap (fN sz)).length:=(List.getElem?_eq_some_iff.1 hj).1;rw [Pe (Ah sz),p] at x;have hd:j/sz<len:=Nat.div_lt_of_lt_mul (by rwa [Nat.mul_comm]);obtain ⟨c,b,m,h3⟩:=q (j/sz) hd;have v:=(g c (List.mem_of_getElem? b)).1;have l:=Nat.mod_lt j h0;have r:j=j/sz*sz+j%sz:=by rw [Nat.mul_comm];exact (Nat.div_add_mod j sz).symm
   rw [r,Wd (Ah sz) css _ _ c b l] at hj;have y:fN sz c=c:=by simp [fN,←v]
   rw [y] at hj;have:=(World.cells?_some m).2.2 (j%sz) l;rw [Addr.add_add,←r] at this;rw [this,hj]
theorem Reads.sliceQ (ht:P.underlying t=some (.slice e)) (d:P.cellsOf e=sz) (h0:0<sz) {R:Rel α} {ok:α->Prop} (hR:∀c,c.length=sz->Reads enc P w e c->∃x,R (D9 w) c x/\ok x) (h:Reads enc P w t cs) :
  ∃(ad:Option Addr) (cap:Nat) (css:List (List Value)) (l:List α),cs=[.slice ad l.length cap]/\ArrQ (D9 w) sz R ad cap css l/\∀x∈l,ok x:=by
 obtain ⟨ad,cap,css,rfl,i,b⟩:=Reads.row ht d h0 h;obtain ⟨l,f,j⟩:=W9 (R:=R (D9 w)) (ok:=ok) css (λc g=>hR c (b c g).1 (b c g).2);exact ⟨ad,cap,css,l,by rw [f.len],⟨i,f⟩,j⟩
theorem Reads.slice (ht:P.underlying t=some (.slice e)) (b:P.cellsOf e=sz) (h0:0<sz) {ok:α->Prop} (hR:∀c,c.length=sz->Reads enc P w e c->∃x,c=f x/\ok x) (m:∀x,(f x).length=sz) (h:Reads enc P w t cs) :
  ∃(ad:Option Addr) (cap:Nat) (l:List α),cs=[.slice ad l.length cap]/\ArrM (D9 w) sz f ad cap l/\∀x∈l,ok x:=by
 obtain ⟨ad,cap,css,l,rfl,⟨j,n⟩,k⟩:=Reads.sliceQ (R:=RpF f) ht b h0 hR h;have d:css=l.map f:=by
  clear j h k
  induction n with
  | nil=>rfl
  | cons h _ ih=>rw [List.map_cons,←ih,←(show _=f _ from h)]
 subst d;refine ⟨ad,cap,l,rfl,λw' g=>?_,k⟩;have:=j w' g;have i:(l.map f).flatMap (fN sz)=l.flatMap f:=by
  rw [List.flatMap_map]
  congr 1
  funext x
  simp [fN,←m x]
 unfold Arr at this ⊢;rw [i] at this
 simpa using this
theorem Reads.struct (ht:P.underlying t=some (.struct fs)) {r:Reach} {b0:Nat} (hv:Value.okWide P w r b0 t v):∃cs:List Value,v=.agg cs.toArray/\v.cells.toList=cs:=by
 obtain ⟨c,rfl,_⟩:=WideShapes.okWide_struct ht hv;exact ⟨c.toList,by simp,by simp [Value.cells]⟩
end
section
variable {H:Type} {enc:TypeId×Value->H} {t e:TypeId} {cs:List Value} {f:Nat}
def ReadsN (enc:TypeId×Value->H) (P:Program) (w:World) (f:Nat) (t:TypeId) (cs:List Value):Prop:=∃d,DataW.trod enc P w 0 (λ_=>true) true f t cs=some d
theorem ReadsN.reads (h:ReadsN enc P w f t cs):Reads enc P w t cs:=by
 obtain ⟨d,h⟩:=h;exact ⟨f,d,h⟩
theorem Reads.ex (h:Reads enc P w t cs):∃f,ReadsN enc P w f t cs:=by
 obtain ⟨f,d,h⟩:=h;exact ⟨f,d,h⟩
theorem ReadsN.fields (ht:P.underlying t=some (.struct fs)) (h:ReadsN enc P w f t cs) :
  ∃n,n<f/\cs.length=P.cellsOf t/\∀(i:Nat) (fd:Field) (m:Nat),fs[i]? = some fd->P.cellsOf fd.type=m->ReadsN enc P w n fd.type ((cs.drop fd.offset).take m):=by
 obtain ⟨d,h⟩:=h;obtain ⟨xs,n,hn,_,e,g,b⟩:=DataW.trod_struct ht h;refine ⟨n,by omega,e,λi fd m c hm=>?_⟩;have hi:i<fs.size:=(Array.getElem?_eq_some_iff.1 c).1;have:=b i fd c;rw [List.getElem?_eq_getElem (by omega),hm] at this;exact ⟨_,this⟩
theorem ReadsN.row (ht:P.underlying t=some (.slice e)) (x:P.cellsOf e=sz) (h0:0<sz) (h:ReadsN enc P w f t cs) :
  ∃(ad:Option Addr) (cap:Nat) (css:List (List Value)),cs=[.slice ad css.length cap]/\ArrM (D9 w) sz (fN sz) ad cap css/\∀c∈css,c.length=sz/\∃n,n<f/\ReadsN enc P w n e c:=by
 obtain ⟨d,h⟩:=h;rcases DataW.trod_slice ht h with ⟨rfl,_⟩|⟨a,len,cap,elems,rest,n,p,rfl,_,_,hl,hm,z,q,_,_⟩
 ·exact ⟨none,0,[],rfl,ArrM.nil,by simp⟩
 ·rw [x] at q;have k:∀i,i<len->∃c,w.cells? 0 (a.add (i*sz)) sz=some c/\ReadsN enc P w n e c:=by
   intro i hi;have:=q i hi;rw [List.getElem?_eq_getElem (by omega),Option.bind_eq_some_iff] at this;obtain ⟨c,g,m⟩:=this;exact ⟨c,g,_,m⟩
  let css:=(List.range len).map λi=>(w.cells? 0 (a.add (i*sz)) sz).getD []
  have r:css.length=len:=by simp [css]
  have s:∀i,i<len->∃c,css[i]? = some c/\w.cells? 0 (a.add (i*sz)) sz=some c/\ReadsN enc P w n e c:=by
   intro i hi;obtain ⟨c,g,m⟩:=k i hi;exact ⟨c,by simp [css,hi,g],g,m⟩
  have b:∀c∈css,c.length=sz/\ReadsN enc P w n e c:=by
   intro c o;obtain ⟨i,hi,he⟩:=List.mem_iff_getElem.1 o;obtain ⟨c',g,m,h3⟩:=s i (by omega);rw [List.getElem?_eq_getElem hi,he] at g;obtain rfl:=Option.some.inj g;exact ⟨(World.cells?_some m).2.1,h3⟩
  refine ⟨some a,cap,css,by rw [r],Arr.toM ⟨rfl,some a,cap,rfl,?_,by omega,hm,λhn=>⟨a,rfl,?_,?_⟩⟩,λc o=>⟨(b c o).1,n,by omega,(b c o).2⟩⟩
  ·exact Pe (Ah sz) css
  ·obtain ⟨c,g,_⟩:=k 0 (by omega);have:=World.cells?_block g h0
   simpa [Addr.add] using this
  ·intro j u hj;have y:j<(css.flatMap (fN sz)).length:=(List.getElem?_eq_some_iff.1 hj).1;rw [Pe (Ah sz),r] at y;have hd:j/sz<len:=Nat.div_lt_of_lt_mul (by rwa [Nat.mul_comm]);obtain ⟨c,g,m,h3⟩:=s (j/sz) hd;have o:=(b c (List.mem_of_getElem? g)).1;have l:=Nat.mod_lt j h0;have v:j=j/sz*sz+j%sz:=by rw [Nat.mul_comm];exact (Nat.div_add_mod j sz).symm
   rw [v,Wd (Ah sz) css _ _ c g l] at hj;have p:fN sz c=c:=by simp [fN,←o]
   rw [p] at hj;have:=(World.cells?_some m).2.2 (j%sz) l;rw [Addr.add_add,←v] at this;rw [this,hj]
theorem ReadsN.sliceQ (ht:P.underlying t=some (.slice e)) (d:P.cellsOf e=sz) (h0:0<sz) {R:Rel α} {ok:α->Prop} (hR:∀n,n<f->∀c,c.length=sz->ReadsN enc P w n e c->∃x,R (D9 w) c x/\ok x) (h:ReadsN enc P w f t cs) :
  ∃(ad:Option Addr) (cap:Nat) (css:List (List Value)) (l:List α),cs=[.slice ad l.length cap]/\ArrQ (D9 w) sz R ad cap css l/\∀x∈l,ok x:=by
 obtain ⟨ad,cap,css,rfl,i,b⟩:=ReadsN.row ht d h0 h;obtain ⟨l,g,j⟩:=W9 (R:=R (D9 w)) (ok:=ok) css (λc k=>by
  obtain ⟨m,n,o,p⟩:=b c k;exact hR n o c m p)
 exact ⟨ad,cap,css,l,by rw [g.len],⟨i,g⟩,j⟩
end
abbrev iv (n:Int):Value:=.int .i64 n
abbrev pb (b:Nat):Value:=.pointer (some ⟨b,0,none⟩)
section
theorem esr {y:Code} (h:WI P r ops (Exit.then (λa w=>WP P r y Q a w) Q) 0 a w):WP P r (.seq (.region id ops false) y) Q a w:=An (WI.region h)
theorem wfn (b:Nat.beq k ops.size=true) (h:K a w):WI P r ops (Exit.then K Q) k a w:=WI.fin b (A2 h)
theorem rn (n k':Nat) (M':List (Nat×Value)) (hF:Fr N ds M a) (next:∀a',Fr N ds M' a'->WI P r ops Q k' a' w) (b:B5 ops N=true:=by kernel_rfl) (h:Ends P ops n k M M' []:=by exact ⟨by kernel_rfl⟩) (c:k+n=k':=by rfl):WI P r ops Q k a w :=
 A4p k' M' hF b A4 h c next
end
abbrev sv {α:Type} (ad:Option Addr) (l:List α) (cap:Nat):Value:=.slice ad l.length cap
abbrev sb (b n:Nat):Value:=.slice (some ⟨b,0,none⟩) n n
abbrev ln {α:Type} (l:List α):Int:=(l.length:Int)
abbrev fz (w:World) (μ:Frz):Res:=Jv w.heap.size μ
section
end
section
variable {e:Nat} {l:List β}
theorem B5m (M':List (Nat×Value)) (i:Nat) {t:Nat} (off:Nat) (u u2:α) (x:β) (v:Value) {l3:List β} (s:All2 S c l) (n:S u2 x) (hF:Fr N ds M a) (y:St w0 H w) (hi:H[i]? = some (arr e sz f ad l.length cap c)) (d:B5 ops N=true)
  (hs:StoreAt ops k M t (.pointer (some ((Cu ad j sz).add off))) v) (z:∀x,(f x).length=sz) (hu:getI c j=some u) (hx:f u2=(f u).take off++v.cells.toList++(f u).drop (off+v.cells.toList.length)) (g:Nat.ble (off+v.cells.toList.length) sz=true)
  (o:pureSem P (sizeOf t)=some v.cells.size) (m:v.cells.toList.all Value.oneCell'=true) (p:L0 l j x=some l3) (hM:NextM ops k M undef M')
  (next:∀c3 w' a',Fr N ds M' a'->l.length=l3.length->All2 S c3 l3->St w0 (H.set i (arr e sz f ad l.length cap c3)) w'->K a' w'):SK P r ops k K a w:=by
 have b:=s.len;obtain ⟨h0,h1,rfl⟩:=Rg p;have q:L0 c j u2=some (c.set j.toNat u2):=by rw [L0,if_pos (by omega)]
 refine A2a (l:=c) M' i off u u2 v hF y (by rw [b];exact hi) d hs z hu hx g o m q hM ?_;intro w' a' g1 g2 g3;rw [b] at g3;exact next _ w' a' g1 (by simp) (s.set n _) g3
end
def A96 (P:Program) (g:TypeId->Value->Value->Option Bool) (xs ys:Array Value):List Field->Option Bool
 | []=>some true
 | f::fs =>
  if f.name ≠ "_" then
   match pureSem P (part f.type xs f.offset),pureSem P (part f.type ys f.offset) with
   | some a,some b=>(g f.type a b).bind λp=>(A96 P g xs ys fs).bind λq=>some (p&&q)
   | _,_=>none
  else A96 P g xs ys fs
def B3k (P:Program) (g:TypeId->Value->Value->Option Bool) (e:TypeId) (n:Nat) (xs ys:Array Value):List Nat->Option Bool
 | []=>some true
 | i::is =>
  match pureSem P (part e xs (i*n)),pureSem P (part e ys (i*n)) with
  | some a,some b=>(g e a b).bind λp=>(B3k P g e n xs ys is).bind λq=>some (p&&q)
  | _,_=>none
def eqB (P:Program):Nat->TypeId->Value->Value->Option Bool
 | 0,_,_,_=>none
 | d+1,t,x,y =>
  match P.underlying t,x,y with
  | some .bool,.bool a,.bool b=>some (a==b)
  | some (.int _),.int k a,.int k' b=>if k=k' then some (a==b) else none
  | some .string,.string a,.string b=>some (a==b)
  | some (.struct fs),.agg xs,.agg ys=>bif P.stoodInHeld t then none else A96 P (eqB P d) xs ys fs.toList
  | some (.array n e),.agg xs,.agg ys=>(pureSem P (sizeOf e)).bind λz=>B3k P (eqB P d) e z xs ys (List.range' 0 n)
  | _,_,_=>none
theorem A97 (g:TypeId->Value->Value->Option Bool) (d:Nat) (e:∀t x y b,g t x y=some b->∀w,(Op.equalIn d t x y).run P w=.ok b w) (xs ys:Array Value) :
  ∀(fs:List Field) (b:Bool),A96 P g xs ys fs=some b->∀w,(Op.eqFields d xs ys fs).run P w=.ok b w:=by
 intro fs
 induction fs with
 | nil=>intro b h w;cases h;rfl
 | cons f fs ih =>
  intro b h w;unfold A96 at h;unfold Op.eqFields
  split at h
  ·rename_i hn
   rw [if_pos hn]
   split at h
   ·rename_i a c i j
    obtain ⟨p,k,h⟩:=Option.bind_eq_some_iff.1 h;obtain ⟨q,l,h⟩:=Option.bind_eq_some_iff.1 h
    cases h
    simp only [Sem.run_bind,Ba _ _ i,Ba _ _ j,Result.andThen_ok,e _ _ _ _ k]
    cases p
    ·simp
    ·simp only [Bool.not_true,Bool.false_eq_true,if_false,Bool.true_and];exact ih q l w
   ·cases h
  ·rename_i hn
   rw [if_neg hn];exact ih b h w
theorem A6j:∀(d:Nat) (t:TypeId) (x y:Value) (b:Bool),eqB P d t x y=some b->∀w,(Op.equalIn d t x y).run P w=.ok b w:=by
 intro d
 induction d with
 | zero=>intro t x y b h;cases h
 | succ d ih =>
  intro t x y b h w;unfold eqB at h
  split at h
  ·rename_i f;cases h;simp [Op.equalIn,run_underlying f]
  ·rename_i f
   split at h
   ·rename_i j;cases h;subst j;simp [Op.equalIn,run_underlying f]
   ·cases h
  ·rename_i f;cases h;simp [Op.equalIn,run_underlying f]
  ·rename_i fs xs ys f
   cases hs:P.stoodInHeld t with
   | true=>rw [hs] at h;cases h
   | false =>
    rw [hs] at h;have g:P.fieldsOf t=fs:=by unfold Program.fieldsOf;rw [f]
    rw [run_equalIn_struct w d t xs ys (by rw [g];exact f) hs,g];exact A97 _ d ih xs ys _ _ h w
  ·rename_i n e xs ys f
   replace h:=Option.bind_eq_some_iff.1 h;obtain ⟨z,k,h⟩:=h;simp only [Op.equalIn,Sem.run_bind,run_underlying f,Result.andThen_ok,Ba _ _ k,Std.Legacy.Range.forIn_eq_forIn_range',Std.Legacy.Range.size,Nat.sub_zero,Nat.add_sub_cancel,Nat.div_one];generalize List.range' 0 n=is at h ⊢
   clear f
   induction is generalizing b with
   | nil=>cases h;simp
   | cons i is ih2 =>
    unfold B3k at h
    split at h
    ·rename_i a c l m
     obtain ⟨p,o,h⟩:=Option.bind_eq_some_iff.1 h;obtain ⟨q,r,h⟩:=Option.bind_eq_some_iff.1 h
     cases h
     simp only [List.forIn_cons,Sem.run_bind,Ba _ _ l,Ba _ _ m,Result.andThen_ok,ih _ _ _ _ o]
     cases p
     ·simp
     ·simp only [Bool.not_true,Bool.false_eq_true,if_false,Bool.true_and,Sem.run_pure,Result.andThen_ok];exact ih2 q r
    ·cases h
  ·cases h
section
variable {cs:List Cd} {t:TypeId} {xs ys:Array Value} {b:Bool}
theorem A6u (c:P.eqGuardType P.depth t=false) (h:eqB P 10000 t (.agg xs) (.agg ys)=some b):Ob.ok P T D (.run cs (eqS .eql t xs ys) (.bool b)):=by
 intro _ w _;simp only [eqS,Sem.run_bind,run_eqGuard_agg w .eql t _ _ xs ys c,Result.andThen_ok,run_eql_struct,A6j _ _ _ _ _ h]
theorem Xr (c:P.eqGuardType P.depth t=false) (h:eqB P 10000 t (.agg xs) (.agg ys)=some b):Ob.ok P T D (.run cs (eqS .neq t xs ys) (.bool (!b))):=by
 intro _ w _;simp only [eqS,Sem.run_bind,run_eqGuard_agg w .neq t _ _ xs ys c,Result.andThen_ok,run_neq_struct,A6j _ _ _ _ _ h]
end
theorem ArrM.none_nil (h:ArrM μ sz f none cap l) (hm:FrzAt μ w):l=[]:=by
 obtain ⟨_,ad',cap',e,_,_,_,hn⟩:=h w hm
 cases e
 by_cases b:0<l.length
 ·obtain ⟨a,c,_⟩:=hn b
  cases c
 ·exact List.length_eq_zero_iff.1 (by omega)
section
variable {e:Nat}
end
end Go.Eng
namespace Go.Eng
open Go Go.RowKit Go.Proofs Go.Sort Go.Shelf
variable {α β γ κ:Type} {o:Oper} {f:α->List Value} {r:Option Nat} {d x u:α} {c l xs l' l3:List α} {P:Program} {T:World->World->Prop} {D:World->Prop} {w w' w0:World} {cs args:Array Value} {k sz cap b n m N bytes id xt:Nat} {ad sad:Option Addr} {a a':Act} {μ ν:Frz} {H:List Res} {R:Ending->World->Prop} {j lo hi:Int} {ys:List β} {ops:Array Oper} {Q:Exit->Act->World->Prop} {K K':Act->World->Prop} {ds:List Deferred} {M M':List (Nat×Value)} {v:Value} {tt kt:TypeId} {eff rest done:List Nat} {obs:List Ob} {css:List (List α)} {S:α->β->Prop} {fn:Func} {ch:List PanicEntry} {fs:Array Field} {L:List (List β)} {kf:κ->Value} {es:List MapEntry} {ρ:Operand->Value} {news:List Value}
section
variable [Inhabited α]
end
section
variable [Inhabited α] {enc:α->List Value} {e:Nat}
end
def So (α:Type) (n:Nat):Type:={l:List α // l.length=n}
instance {α:Type} {n:Nat} [DecidableEq α]:DecidableEq (So α n):=λa b=>if h:a.1=b.1 then isTrue (Subtype.ext h) else isFalse (λe=>h (by rw [e]))
instance {α:Type} {n:Nat} [Inhabited α]:Inhabited (So α n):=⟨⟨List.replicate n default,List.length_replicate⟩⟩
section
variable (f:α->Value)
def vF (x:So α n):List Value:=x.1.map f
theorem A68 (x:So α n):(vF f x).length=n:=by unfold vF;rw [List.length_map];exact x.2
def A3c (x:So α n) (i:Int):Option α:=getI x.1 i
theorem A7h {x:So α n} {i:Int} (h:A3c x i=some u):0<=i/\i<n/\x.1[i.toNat]? = some u:=by
 obtain ⟨c,b,d⟩:=Ny h;rw [x.2] at b;exact ⟨c,b,d⟩
end
section
variable {cs:List Cd} {f:α->Value} {x:So α n} {i:Int}
def A6c (P:Program) (t n:Nat):Bool:=match P.underlying t with
 | some (.array m e)=>Nat.beq m n&&(match pureSem P (sizeOf e) with|some k=>Nat.beq k 1|none=>false)
 | _=>false
theorem A14 {t:Nat} (h:A6c P t n=true):∃e,P.underlying t=some (.array n e)/\∀w,(sizeOf e).run P w=.ok 1 w:=by
 unfold A6c at h
 split at h
 ·rename_i m e c
  rw [Bool.and_eq_true] at h;have hm:=Nat.eq_of_beq_eq_true h.1;subst hm;refine ⟨e,c,λw=>?_⟩
  cases b:pureSem P (sizeOf e) with
  | none=>rw [b] at h;simp at h
  | some k =>
   rw [b] at h;have d:=Nat.eq_of_beq_eq_true h.2;subst d;exact Ba _ _ b w
 ·cases h
theorem A7p {t:Nat} (ht:Sp P t=some n) (h:Blk w b tt (vF f x).toArray):(loadVar t ⟨b,0,none⟩).run P w=.ok (.agg (vF f x).toArray) w :=
 B8 (cs:=vF f x) (by rw [A68];exact ht) (h.cells (by simp))
end
section
variable {f:α->Value} {x y:So α n}
theorem B2o (M':List (Nat×Value)) (i:Nat) {t:TypeId} (l:∀u,(f u).oneCell'=true) (hF:Fr N ds M a) (m:St w0 H w) (hi:H[i]? = some (blk b tt (vF f x).toArray)) (d:B5 ops N=true)
  (hs:StoreAt ops k M t (.pointer (some ⟨b,0,none⟩)) (.agg (vF f y).toArray)) (g:pureSem P (sizeOf t)=some n)
  (o:NextM ops k M undef M') (next:∀w' a',Fr N ds M' a'->St w0 (H.set i (blk b tt (vF f y).toArray)) w'->K a' w'):SK P r ops k K a w:=by
 have j:=A68 f x;have c:=A68 f y;have e:(Value.agg (vF f y).toArray).cells=(vF f y).toArray:=rfl;refine H7 M' i (cs:=(vF f x).toArray) 0 (.agg (vF f y).toArray) (vF f y).toArray hF m hi d hs (by rw [e];simpa [c] using g) ?_ ?_ ?_ o next
 ·rw [e];apply List.all_eq_true.2;intro v hv;simp [vF] at hv;obtain ⟨u,_,rfl⟩:=hv;exact l u
 ·rw [e];apply Nat.ble_eq_true_of_le;simp [j,c]
 ·rw [e];unfold A09;simp [j,c]
end
section
variable {cs:List Cd} {t e:TypeId} {x y:So Bool n}
end
abbrev Hd:=Option Addr×Nat×Nat
variable {hd:List Hd}
def hdF (h:Hd):List Value:=[.slice h.1 h.2.1 h.2.2]
theorem Z0 (h:Hd):(hdF h).length=1:=rfl
def Z5:Hd:=(none,0,0)
def A42 (Rs:List Res):Res where
 foot:=λb=>∃R∈Rs,R.foot b
 holds:=λw=>(∀R∈Rs,R.holds w)/\Rs.Pairwise (λ(R S:Res)=>∀b:Nat,R.foot b->¬S.foot b)
 loc:=λw w' h hb=>⟨λR hR=>R.loc w w' (λb hf=>h b ⟨R,hR,hf⟩) (hb.1 R hR),hb.2⟩
 lt:=λw b hb hk=>by obtain ⟨R,hR,hf⟩:=hk;exact R.lt w b (hb.1 R hR) hf
section
variable {Rs:List Res}
theorem St.openG (h:St w0 (A42 Rs::H) w):St w0 (Rs++H) w:=by
 have hb:=h.holds _ (List.mem_cons_self ..);have c:=List.pairwise_cons.1 h.apart;refine ⟨h.ext,λR hR=>?_,λR hR b d=>?_,List.pairwise_append.2 ⟨hb.2,c.2,λR hR S e b f g=>c.1 S e b ⟨R,hR,f⟩ g⟩⟩
 ·rcases List.mem_append.1 hR with hR|hR
  ·exact hb.1 R hR
  ·exact h.holds R (List.mem_cons_of_mem _ hR)
 ·rcases List.mem_append.1 hR with hR|hR
  ·exact h.low _ (List.mem_cons_self ..) b ⟨R,hR,d⟩
  ·exact h.low R (List.mem_cons_of_mem _ hR) b d
theorem St.closeG (h:St w0 (Rs++H) w):St w0 (A42 Rs::H) w:=by
 have e:=List.pairwise_append.1 h.apart;refine ⟨h.ext,λR hR=>?_,λR hR b d=>?_,List.pairwise_cons.2 ⟨λS c b f g=>?_,e.2.1⟩⟩
 ·rcases List.mem_cons.1 hR with rfl|hR
  ·exact ⟨λS c=>h.holds S (List.mem_append_left _ c),e.1⟩
  ·exact h.holds R (List.mem_append_right _ hR)
 ·rcases List.mem_cons.1 hR with rfl|hR
  ·obtain ⟨S,c,d⟩:=d;exact h.low S (List.mem_append_left _ c) b d
  ·exact h.low R (List.mem_append_right _ hR) b d
 ·obtain ⟨R,hR,f⟩:=f;exact e.2.2 R hR S c b f g
end
def rwL {α:Type} (e sz:Nat) (f:α->List Value) (hd:List Hd) (xss:List (List α)):List Res:=List.zipWith (λ(h:Hd) x=>arr e sz f h.1 h.2.1 h.2.2 x) hd xss
def Sx {α:Type} (e sz:Nat) (f:α->List Value) (hd:List Hd) (xss:List (List α)):Res:=A42 (rwL e sz f hd xss)
section
variable {e:Nat} {xss:List (List α)} {i:Nat} {h:Hd} {x:List α}
theorem A3q (b:hd[i]? = some h) (c:xss[i]? = some x):(rwL e sz f hd xss)[i]? = some (arr e sz f h.1 h.2.1 h.2.2 x):=by
 unfold rwL;rw [List.getElem?_zipWith,b,c]
theorem A3r (hd:List Hd) (xss:List (List α)) (i:Nat) (h:Hd) (x:List α):rwL e sz f (hd.set i h) (xss.set i x)=(rwL e sz f hd xss).set i (arr e sz f h.1 h.2.1 h.2.2 x):=by
 unfold rwL;apply List.ext_getElem?;intro j;rw [List.getElem?_zipWith,List.getElem?_set,List.getElem?_set,List.getElem?_set,List.length_zipWith,List.getElem?_zipWith]
 by_cases b:i=j
 ·subst b
  by_cases c:i<hd.length
  ·by_cases d:i<xss.length
   ·have g:i<min hd.length xss.length:=by omega
    simp [c,d];omega
   ·have g:¬i<min hd.length xss.length:=by omega
    simp [c,d];omega
  ·have g:¬i<min hd.length xss.length:=by omega
   simp [c];omega
 ·simp only [if_neg b]
theorem St.nilRws (h:St w0 H w) (e sz:Nat) (f:α->List Value) (n:Nat):St w0 (Sx e sz f (List.replicate n Z5) (List.replicate n ([]:List α))::H) w:=by
 apply St.closeG;have:rwL e sz f (List.replicate n Z5) (List.replicate n ([]:List α))=List.replicate n (Go.Eng.arr e sz f none 0 0 ([]:List α)):=by
  unfold rwL;rw [List.zipWith_replicate,Nat.min_self];rfl
 rw [this]
 induction n with
 | zero=>exact h
 | succ n ih=>exact St.nilarr (ih (by unfold rwL;rw [List.zipWith_replicate,Nat.min_self];rfl)) e sz f
theorem St.putRow (i:Nat) (hi:i<hd.length) (j:hd.length=xss.length) (d:St w0 (Sx e sz f hd xss::Go.Eng.arr e sz f h.1 h.2.1 h.2.2 x::H) w):St w0 (Sx e sz f (hd.set i h) (xss.set i x)::H) w:=by
 apply St.closeG;have c:=d.openG;rw [A3r];have b:i<(rwL e sz f hd xss).length:=by unfold rwL;rw [List.length_zipWith];omega
 generalize rwL e sz f hd xss=Rs at c b ⊢;generalize Go.Eng.arr e sz f h.1 h.2.1 h.2.2 x=R at c ⊢;have hd':Rs=Rs.take i++Rs[i]::Rs.drop (i+1):=by rw [List.getElem_cons_drop,List.take_append_drop]
 rw [List.set_eq_take_append_cons_drop,if_pos b];have g:St w0 ((Rs.take i++Rs[i]::Rs.drop (i+1))++R::H) w:=by rw [←hd'];exact c
 refine (g.sub (H':=(Rs.take i++Rs.drop (i+1))++R::H) ?_).perm ?_
 ·exact List.Sublist.append (List.Sublist.append (List.Sublist.refl _) (List.sublist_cons_self ..)) (List.Sublist.refl _)
 ·rw [List.append_assoc,List.append_assoc];refine List.Perm.append_left _ ?_;exact List.perm_middle
theorem St.takeRow (j:hd[i]? = some h) (k:xss[i]? = some x) (l:St w0 (Sx e sz f hd xss::H) w):St w0 (Sx e sz f (hd.set i Z5) (xss.set i [])::Go.Eng.arr e sz f h.1 h.2.1 h.2.2 x::H) w:=by
 have d:=l.openG;have g:=A3q (e:=e) (sz:=sz) (f:=f) j k;apply St.closeG;rw [A3r];obtain ⟨b,c⟩:=List.getElem?_eq_some_iff.1 g;generalize rwL e sz f hd xss=Rs at d b c g ⊢;have hd':Rs=Rs.take i++Rs[i]::Rs.drop (i+1):=by rw [List.getElem_cons_drop,List.take_append_drop]
 rw [List.set_eq_take_append_cons_drop,if_pos b];rw [hd',c] at d;refine (St.nilarr d e sz f).perm ?_;rw [List.append_assoc,List.append_assoc];refine List.Perm.trans ?_ List.perm_middle.symm;refine List.Perm.cons _ ?_;refine List.Perm.trans (List.perm_middle) ?_;refine List.Perm.trans ?_ (List.Perm.append_left _ List.perm_middle.symm);exact List.perm_middle.symm
end
def NestOk {α β:Type} (S:α->β->Prop) (hd:List Hd) (css:List (List α)) (L:List (List β)):Prop:=All2 (λ(h:Hd) l=>h.2.1=l.length) hd L/\All2 (All2 S) css L
section
variable {L3:List (List β)} {i:Int} {u l3:List β}
theorem NestOk.nil:NestOk S [] ([]:List (List α)) ([]:List (List β)):=⟨.nil,.nil⟩
theorem NestOk.lenH (h:NestOk S hd css L):hd.length=L.length:=h.1.len
theorem NestOk.lenHC (h:NestOk S hd css L):hd.length=css.length:=h.1.len.trans h.2.len.symm
theorem NestOk.get (h:NestOk S hd css L) (d:getI L i=some u):∃(ad:Option Addr) (cap:Nat) (c:List α),getI hd i=some (ad,u.length,cap)/\hd[i.toNat]? = some (ad,u.length,cap)/\css[i.toNat]? = some c/\All2 S c u:=by
 obtain ⟨⟨ad,n,cap⟩,e,b⟩:=Ae h.1 d;obtain ⟨c,f,g⟩:=Ae h.2 d;have b:n=u.length:=b;subst b;exact ⟨ad,cap,c,e,(Ny e).2.2,(Ny f).2.2,g⟩
theorem A4v (h:l[k]? = some x):l.set k x=l:=by
 obtain ⟨b,c⟩:=List.getElem?_eq_some_iff.1 h;rw [←c];exact List.set_getElem_self b
theorem All2.setL {R:α->β->Prop} {y:β} (h:All2 R xs ys) (c:xs[k]? = some x) (b:R x y):All2 R xs (ys.set k y):=by
 have:=h.set b k
 rwa [A4v c] at this
theorem NestOk.set (h:NestOk S hd css L) {h0:Hd} (b:hd[i.toNat]? = some h0) (c:h0.2.1=l3.length) {c3:List α} (d:All2 S c3 l3) (hs:L0 L i l3=some L3):NestOk S hd (css.set i.toNat c3) L3:=by
 obtain ⟨_,_,rfl⟩:=Rg hs;exact ⟨h.1.setL b c,h.2.set d _⟩
theorem NestOk.put (h:NestOk S hd css L) {h0:Hd} (b:h0.2.1=l3.length) {c3:List α} (c:All2 S c3 l3) (hs:L0 L i l3=some L3):NestOk S (hd.set i.toNat h0) (css.set i.toNat c3) L3:=by
 obtain ⟨_,_,rfl⟩:=Rg hs;exact ⟨h.1.set (R:=λ(h:Hd) (l:List β)=>h.2.1=l.length) b _,h.2.set c _⟩
theorem NestOk.rep (n:Nat):NestOk S (List.replicate n Z5) (List.replicate n ([]:List α)) (List.replicate n ([]:List β)) :=
 ⟨All2.rep (R:=λ(h:Hd) (l:List β)=>h.2.1=l.length) rfl n,All2.rep .nil n⟩
theorem NestOk.mono {R:Rel β} {css:List (List (List Value))} (hR:R.Mono) (b:μ.le ν) (h:NestOk (R μ) hd css L):NestOk (R ν) hd css L :=
 ⟨h.1,h.2.imp λ_ _ h=>All2.mono hR b h⟩
end
section
variable {e:Nat} {l l3:List β} {p:Nat}
theorem B4h (M':List (Nat×Value)) (i:Nat) {t eo:Nat} {L3:List (List β)} (u x:Hd) (b:hd.length=L.length) (hF:Fr N ds M a) (g:St w0 H w) (hi:H[i]? = some (arr eo 1 hdF ad L.length cap hd)) (c:B5 ops N=true)
  (hs:StoreAt ops k M t (.pointer (some (Cu ad j 1))) (.slice x.1 x.2.1 x.2.2)) (m:getI hd j=some u) (d:pureSem P (sizeOf t)=some 1) (e:L0 L j l=some L3) (n:NextM ops k M undef M')
  (next:∀w' a',Fr N ds M' a'->L.length=L3.length->St w0 (H.set i (arr eo 1 hdF ad L.length cap (hd.set j.toNat x))) w'->K a' w'):SK P r ops k K a w:=by
 obtain ⟨h0,o,rfl⟩:=Rg e;have f:L0 hd j x=some (hd.set j.toNat x):=by rw [L0,if_pos (by omega)]
 refine A2a (l:=hd) M' i 0 u x (.slice x.1 x.2.1 x.2.2) hF g (by rw [b];exact hi) c hs Z0 m rfl rfl d rfl f n ?_;intro w' a' g1 g2 g3;rw [b] at g3;exact next w' a' g1 (by simp) g3
end
set_option maxRecDepth 10000
section
variable {ν:Type} [DecidableEq κ]
def ixM:List (κ×ν)->κ->Option Nat
 | [],_=>none
 | p::B,x=>if x=p.1 then some 0 else (ixM B x).map (·+1)
def lkM:List (κ×ν)->κ->Option ν
 | [],_=>none
 | p::B,x=>if x=p.1 then some p.2 else lkM B x
def upM:List (κ×ν)->κ->ν->List (κ×ν)
 | [],x,v=>[(x,v)]
 | p::B,x,v=>if x=p.1 then (x,v)::B else p::upM B x v
end
def A20 {κ ν:Type} (kf:κ->Value) (vf:ν->Value) (es:List MapEntry) (B:List (κ×ν)):Prop:=All2 (λ(e:MapEntry) (p:κ×ν)=>e.key=kf p.1/\e.val=vf p.2) es B
def ixL {κ:Type} [DecidableEq κ]:List κ->κ->Option Nat
 | [],_=>none
 | p::B,x=>if x=p then some 0 else (ixL B x).map (·+1)
structure KeyOk (P:Program) {κ:Type} [DecidableEq κ] (kt:TypeId) (kf:κ->Value):Prop where
 ck:∀em x,pureSem P (Instr.checkKey em 10000 kt (kf x))=some ()
 bits:∀x,Instr.sameBits 10000 (kf x) (kf x)=true
 find:∀(x:κ) (es:List MapEntry) (ks:List κ),es.map (·.key)=ks.map kf->∀w,(Instr.findKey kt (kf x) es).run P w=.ok ((ixL ks x).bind λi=>(es[i]?).map λe=>(i,e.val)) w
structure KeyAsk (P:Program) {κ:Type} [DecidableEq κ] (kt:TypeId) (kf:κ->Value):Prop where
 ck:∀em x,pureSem P (Instr.checkKey em 10000 kt (kf x))=some ()
 bits:∀x,Instr.sameBits 10000 (kf x) (kf x)=true
 eq:∀x y w,(Op.equal kt (kf x) (kf y)).run P w=.ok (decide (x=y)) w
 now:∀x y,(pureSem P (underlying kt)).bind (λd=>Instr.sameNow d (kf x) (kf y))=none
 und:(pureSem P (underlying kt)).isSome=true
structure KeyNow (P:Program) {κ:Type} [DecidableEq κ] (kt:TypeId) (kf:κ->Value):Prop where
 ck:∀em x,pureSem P (Instr.checkKey em 10000 kt (kf x))=some ()
 bits:∀x,Instr.sameBits 10000 (kf x) (kf x)=true
 now:∀x y,(pureSem P (underlying kt)).bind (λd=>Instr.sameNow d (kf x) (kf y))=some (decide (x=y))
 und:(pureSem P (underlying kt)).isSome=true
section
variable {ν:Type} [DecidableEq κ] {vf:ν->Value}
theorem A74 (d:KeyAsk P kt kf) (x:κ) (w:World):∀{es:List MapEntry} {ks:List κ} (i:Nat),es.map (·.key)=ks.map kf->(Instr.findAsking kt (kf x) es i).run P w=.ok ((ixL ks x).bind λj=>(es[j]?).map λe=>(j+i,e.val)) w:=by
 intro es
 induction es with
 | nil =>
  intro ks i h
  cases ks with
  | nil=>rfl
  | cons _ _=>cases h
 | cons e es ih =>
  intro ks i h
  cases ks with
  | nil=>cases h
  | cons p ks =>
   simp only [List.map_cons,List.cons.injEq] at h;have c:=d.eq x p w;rw [←h.1] at c;unfold Instr.findAsking;simp only [Sem.run_bind,c,Result.andThen_ok];unfold ixL
   by_cases b:x=p
   ·rw [decide_eq_true b,if_pos b];simp
   ·rw [decide_eq_false b,if_neg b];have:=ih (i+1) h.2;simp only [Bool.false_eq_true,if_false];rw [this]
    cases ixL ks x with
    | none=>rfl
    | some j=>simp [Nat.add_assoc,Nat.add_comm 1 i]
theorem A5o {d:TypeDesc} (hn:∀x y:κ,Instr.sameNow d (kf x) (kf y)=some (decide (x=y))) (x:κ):∀{es:List MapEntry} {ks:List κ} (i:Nat),es.map (·.key)=ks.map kf->Instr.findNow d (kf x) es i=some ((ixL ks x).bind λj=>(es[j]?).map λe=>(j+i,e.val)):=by
 intro es
 induction es with
 | nil =>
  intro ks i h
  cases ks with
  | nil=>rfl
  | cons _ _=>cases h
 | cons e es ih =>
  intro ks i h
  cases ks with
  | nil=>cases h
  | cons p ks =>
   simp only [List.map_cons,List.cons.injEq] at h;have c:=hn x p;rw [←h.1] at c;unfold Instr.findNow;rw [c];unfold ixL
   by_cases b:x=p
   ·rw [decide_eq_true b,if_pos b];simp
   ·rw [decide_eq_false b,if_neg b];have:=ih (i+1) h.2;simp only [];rw [this]
    cases ixL ks x with
    | none=>rfl
    | some j=>simp [Nat.add_assoc,Nat.add_comm 1 i]
theorem KeyAsk.ok (b:KeyAsk P kt kf):KeyOk P kt kf:=by
 refine ⟨b.ck,b.bits,λx es ks h=>?_⟩;intro w;unfold Instr.findKey;obtain ⟨d,hd⟩:=Option.isSome_iff_exists.1 b.und;have c:=Ba _ _ hd w;simp only [Sem.run_bind,c,Result.andThen_ok]
 cases es with
 | nil =>
  cases ks with
  | nil=>rfl
  | cons _ _=>cases h
 | cons e es =>
  cases ks with
  | nil=>cases h
  | cons p ks =>
   have hn:=b.now x p;have f:e.key=kf p:=by simp only [List.map_cons,List.cons.injEq] at h;exact h.1
   rw [hd,Option.bind_some,←f] at hn;have:Instr.findNow d (kf x) (e::es) 0=none:=by
    unfold Instr.findNow;rw [hn]
   rw [this];exact A74 b x w 0 h
theorem KeyNow.ok (b:KeyNow P kt kf):KeyOk P kt kf:=by
 refine ⟨b.ck,b.bits,λx es ks h=>?_⟩;intro w;unfold Instr.findKey;obtain ⟨d,hd⟩:=Option.isSome_iff_exists.1 b.und;have c:=Ba _ _ hd w;simp only [Sem.run_bind,c,Result.andThen_ok];have:=A5o (kf:=kf) (d:=d) (λx y=>by have:=b.now x y;rw [hd] at this;exact this) x 0 h;rw [this];rfl
theorem A95 {B:List (κ×ν)} (h:A20 kf vf es B):es.map (·.key)=(B.map (·.1)).map kf:=by
 induction h with
 | nil=>rfl
 | cons h _ ih=>simp only [List.map_cons,ih,h.1]
theorem B1i (B:List (κ×ν)) (x:κ):ixL (B.map (·.1)) x=ixM B x:=by
 induction B with
 | nil=>rfl
 | cons p B ih=>simp only [List.map_cons,ixL,ixM,ih]
theorem A6s {B:List (κ×ν)} {x:κ}:lkM B x=(ixM B x).bind λi=>(B[i]?).map (·.2):=by
 induction B with
 | nil=>rfl
 | cons p B ih =>
  unfold lkM ixM
  by_cases b:x=p.1
  ·simp [b]
  ·rw [if_neg b,if_neg b,ih]
   cases ixM B x<;>simp
theorem A6i {B:List (κ×ν)} (h:A20 kf vf es B) {i:Nat} {p:κ×ν} (b:B[i]? = some p):∃e,es[i]? = some e/\e.key=kf p.1/\e.val=vf p.2:=by
 induction h generalizing i with
 | nil=>simp at b
 | cons h _ ih =>
  cases i with
  | zero=>simp at b;subst b;exact ⟨_,rfl,h⟩
  | succ i=>obtain ⟨e,c,d⟩:=ih (by simpa using b);exact ⟨e,by simpa using c,d⟩
theorem A6k (g:KeyOk P kt kf) (x:κ) {B:List (κ×ν)} (h:A20 kf vf es B):∃r,(∀w,(Instr.findKey kt (kf x) es).run P w=.ok r w)/\r.map (·.1)=ixM B x/\(∀p,r=some p->∃v,lkM B x=some v/\p.2=vf v)/\(r=none->lkM B x=none):=by
 have c:=g.find x es _ (A95 h);rw [B1i] at c;refine ⟨_,c,?_⟩;rw [A6s]
 cases hi:ixM B x with
 | none=>simp
 | some i =>
  have d:∃p,B[i]? = some p:=by
   clear c h
   induction B generalizing i with
   | nil=>cases hi
   | cons q B ih =>
    unfold ixM at hi
    by_cases f:x=q.1
    ·rw [if_pos f] at hi;cases hi;exact ⟨q,rfl⟩
    ·rw [if_neg f] at hi;obtain ⟨j,hj,rfl⟩:=Option.map_eq_some_iff.1 hi;obtain ⟨p,b⟩:=ih j hj;exact ⟨p,by simpa using b⟩
  obtain ⟨p,b⟩:=d;obtain ⟨e,e1,e2,e3⟩:=A6i h b;simp only [Option.bind_some,e1,b,Option.map_some];exact ⟨trivial,λq k=>by cases k;exact ⟨p.2,rfl,e3⟩,λh=>by cases h⟩
theorem A9e {B:List (κ×ν)} {x:κ} {i:Nat} (h:ixM B x=some i):i<B.length/\∃p,B[i]? = some p/\p.1=x/\lkM B x=some p.2:=by
 induction B generalizing i with
 | nil=>cases h
 | cons p B ih =>
  unfold ixM at h
  by_cases b:x=p.1
  ·rw [if_pos b] at h
   cases h
   exact ⟨by simp,p,rfl,b.symm,by unfold lkM;rw [if_pos b]⟩
  ·rw [if_neg b] at h;obtain ⟨j,hj,rfl⟩:=Option.map_eq_some_iff.1 h;obtain ⟨f,q,c,d,e⟩:=ih hj;exact ⟨by simp;omega,q,by simpa using c,d,by unfold lkM;rw [if_neg b];exact e⟩
theorem B2i {B:List (κ×ν)} {x:κ} {i:Nat} {v:ν} (h:ixM B x=some i):upM B x v=B.set i (x,v):=by
 induction B generalizing i with
 | nil=>cases h
 | cons p B ih =>
  unfold ixM at h;unfold upM
  by_cases b:x=p.1
  ·rw [if_pos b] at h ⊢
   cases h;rfl
  ·rw [if_neg b] at h ⊢;obtain ⟨j,hj,rfl⟩:=Option.map_eq_some_iff.1 h;rw [ih hj];rfl
theorem B2h {B:List (κ×ν)} {x:κ} {v:ν} (h:ixM B x=none):upM B x v=B++[(x,v)]:=by
 induction B with
 | nil=>rfl
 | cons p B ih =>
  unfold ixM at h;unfold upM
  by_cases b:x=p.1
  ·rw [if_pos b] at h;cases h
  ·rw [if_neg b] at h ⊢;rw [ih (Option.map_eq_none_iff.1 h)];rfl
end
def A7s {κ ν:Type} (kf:κ->Value) (vf:ν->Value) (m:Nat) (B:List (κ×ν)):Res where
 foot:=λk=>k=m
 holds:=λw=>∃(es:List MapEntry) (clock:Nat),w.heap[m]? = some (.map es.toArray clock)/\A20 kf vf es B/\(∀e∈es,e.born<clock)/\es.Pairwise (λa b=>a.born≠b.born)
 loc:=λw w' h hb=>by
  obtain ⟨es,clock,h1,h2⟩:=hb;exact ⟨es,clock,(h m rfl).trans h1,h2⟩
 lt:=λw k hb hk=>by
  subst hk;obtain ⟨es,clock,h1,_⟩:=hb;exact (Array.getElem?_eq_some_iff.1 h1).1
def effSemM (ρ:Operand->Value) (op:Op) (ty:TypeId):Option (Sem Value) :=
 match op with
 | .makeMap t r=>some (Instr.makeMap t (r.map ρ))
 | .lookup t x ix ok=>some (Instr.lookup t (ρ x) (ρ ix) ok)
 | .mapEntry t m k=>some (Instr.mapEntry t (ρ m) (ρ k))
 | .call { callee:=.builtin .delete,args,argTypes }=>some (Builtin.delete_ argTypes ty (args.map ρ))
 | _=>none
theorem A49 {s:Sem Value} (h:effSemM ρ o.op o.type=some s) (c:s.run P w=.ok v w'):(execOp ρ o).run P w=.ok (.value v) w':=by
 unfold effSemM at h;unfold execOp
 split at h<;>rename_i b<;>simp only [Option.some.injEq,reduceCtorEq] at h<;>(try subst h)<;>rw [b]<;>simp [c,resolve,invoke,builtin]
def uniSemM (ρ:Operand->Value) (op:Op):Option (Sem Unit) :=
 match op with
 | .mapUpdate t m k x=>some (Instr.mapUpdate t (ρ m) (ρ k) (ρ x))
 | .entryStore t m s x=>some (Instr.entryStore t (ρ m) (ρ s) (ρ x))
 | _=>none
theorem A53 {s:Sem Unit} (h:uniSemM ρ o.op=some s) (c:s.run P w=.ok () w'):(execOp ρ o).run P w=.ok .skip w':=by
 unfold uniSemM at h;unfold execOp
 split at h<;>rename_i b<;>simp only [Option.some.injEq,reduceCtorEq] at h<;>(try subst h)<;>rw [b]<;>simp [c]
structure EffM (ops:Array Oper) (k:Nat) (M:List (Nat×Value)) (s:Sem Value):Prop where
 eq:((plainAt ops k M).bind λo=>effSemM (rhoE (ofM M)) o.op o.type)=some s
structure UniM (ops:Array Oper) (k:Nat) (M:List (Nat×Value)) (s:Sem Unit):Prop where
 eq:((plainAt ops k M).bind λo=>uniSemM (rhoE (ofM M)) o.op)=some s
section
theorem B2s {s:Sem Value} (hF:Fr N ds M a) (b:B5 ops N=true) (hs:EffM ops k M s) (c:s.run P w=.ok v w')
  (d:NextM ops k M v M') (next:∀a',Fr N ds M' a'->K a' w'):SK P r ops k K a w:=by
 have hs:=hs.eq
 cases ho:plainAt ops k M with
 | none=>rw [ho] at hs;simp at hs
 | some o =>
  rw [ho] at hs;exact B1x hF b ho (A49 hs c) d next
theorem B5r {s:Sem Unit} (hF:Fr N ds M a) (b:B5 ops N=true) (hs:UniM ops k M s) (c:s.run P w=.ok () w')
  (d:NextM ops k M undef M') (next:∀a',Fr N ds M' a'->K a' w'):SK P r ops k K a w:=by
 have hs:=hs.eq
 cases ho:plainAt ops k M with
 | none=>rw [ho] at hs;simp at hs
 | some o =>
  rw [ho] at hs;exact B35 hF b ho (A53 hs c) d next
variable {ν:Type} [DecidableEq κ] {e t:TypeId} {vf:ν->Value} {B:List (κ×ν)} {x:κ} {v d:ν}
def A2u (P:Program) (t kt e:TypeId):Bool:=match P.underlying t with
 | some (.map a b)=>Nat.beq a kt&&Nat.beq b e
 | _=>false
theorem Vc (h:A2u P t kt e=true):P.underlying t=some (.map kt e):=by
 unfold A2u at h
 split at h
 ·rename_i a b c
  rw [Bool.and_eq_true] at h;rw [c,Nat.eq_of_beq_eq_true h.1,Nat.eq_of_beq_eq_true h.2]
 ·cases h
theorem A4h (κ ν:Type) (kf:κ->Value) (vf:ν->Value) (M':Nat->List (Nat×Value)) (hF:Fr N ds M a) (f:St w0 H w) (c:B5 ops N=true) (hs:EffM ops k M (Instr.makeMap t none)) (g:∀m,NextM ops k M (.map (some m)) (M' m))
  (next:∀m w' a',Fr N ds (M' m) a'->St w0 (A7s kf vf m ([]:List (κ×ν))::H) w'->K a' w'):SK P r ops k K a w:=by
 refine B2s hF c hs (v:=.map (some w.heap.size)) (w':=w.alloc (.map #[] 0)) ?_ (g _) ?_
 ·have hn:(newObj (.map #[] 0)).run P w=.ok w.heap.size (w.alloc (.map #[] 0)):=rfl;simp [Instr.makeMap,hn]
 ·intro a' d;refine next _ _ a' d (f.push (X7 w _) ⟨[],0,World.alloc_heap_new w _,.nil,λe he=>by simp at he,.nil⟩ (λb hb=>by rw [show b=w.heap.size from hb];exact Nat.le_refl _))
end
def Gq {α:Type} (eo e sz:Nat) (f:α->List Value) (ad:Option Addr) (n cap:Nat) (hd:List Hd) (css:List (List α)):Res:=A42 (arr eo 1 hdF ad n cap hd::rwL e sz f hd css)
section
variable {Rs Rs':List Res} {i:Nat} {R:Res}
theorem Xs {i:Nat} (h:l[i]? = some x):l.Perm (x::l.eraseIdx i):=by
 obtain ⟨c,b⟩:=List.getElem?_eq_some_iff.1 h;have:l=l.take i++x::l.drop (i+1):=by rw [←b,List.getElem_cons_drop,List.take_append_drop]
 rw [List.eraseIdx_eq_take_drop_succ]
 conv=>lhs;rw [this]
 exact List.perm_middle
theorem St.openAt (h:St w0 H w) (hi:H[i]? = some (A42 Rs)):St w0 (Rs++H.eraseIdx i) w:=(h.perm (Xs hi)).openG
theorem St.closeAt (hi:i<H.length) (h:St w0 (Rs++H.eraseIdx i) w):St w0 (H.set i (A42 Rs)) w:=by
 refine (h.closeG).perm ?_;have:=Xs (l:=H.set i (A42 Rs)) (i:=i) (x:=A42 Rs) (by simp [hi]);rw [List.eraseIdx_set_eq] at this;exact this.symm
theorem A2t {i:Nat} (h:l[i]? = some x):i<l.length:=(List.getElem?_eq_some_iff.1 h).1
end
section
variable {eo e q:Nat} {hd':List Hd} {css':List (List α)} {h:Hd}
theorem Su (b:(Gq eo e sz f ad n cap hd css).holds w):Arr w 1 hdF ad n cap hd:=by
 have:=b.1 _ (List.mem_cons_self ..);exact ⟨this.1,Sl.of_own this.2⟩
theorem A3g (b:(Gq eo e sz f ad n cap hd css).holds w) (d:hd[q]? = some h) (g:css[q]? = some c):Arr w sz f h.1 h.2.1 h.2.2 c:=by
 have:=b.1 _ (List.mem_cons_of_mem _ (List.mem_of_getElem? (A3q (e:=e) (sz:=sz) (f:=f) d g)));exact ⟨this.1,Sl.of_own this.2⟩
theorem St.nilNest (b:St w0 H w) (eo e sz:Nat) (f:α->List Value):St w0 (Gq eo e sz f none 0 0 [] ([]:List (List α))::H) w:=by
 apply St.closeG;exact b.nilarr eo 1 hdF
theorem St.makeNest (b:St w0 (Go.Eng.arr eo 1 hdF ad n cap (List.replicate m Z5)::H) w) (e sz:Nat) (f:α->List Value):St w0 (Gq eo e sz f ad n cap (List.replicate m Z5) (List.replicate m ([]:List α))::H) w:=by
 apply St.closeG;have c:St w0 (Sx e sz f (List.replicate m Z5) (List.replicate m ([]:List α))::Go.Eng.arr eo 1 hdF ad n cap (List.replicate m Z5)::H) w:=St.nilRws b e sz f m;have d:=c.openG;exact d.perm (List.perm_middle)
theorem St.takeN (b:St w0 (Gq eo e sz f ad n cap hd css::H) w) (d:hd[q]? = some h) (g:css[q]? = some c) (hn:hd.length=n) :
  St w0 (Go.Eng.arr eo 1 hdF ad n cap hd::Sx e sz f (hd.set q Z5) (css.set q [])::Go.Eng.arr e sz f h.1 h.2.1 h.2.2 c::H) w:=by
 have i:St w0 (Go.Eng.arr eo 1 hdF ad n cap hd::(rwL e sz f hd css++H)) w:=b.openG;have j:St w0 (Sx e sz f hd css::Go.Eng.arr eo 1 hdF ad n cap hd::H) w:=by
  apply St.closeG;exact i.perm (List.perm_middle.symm)
 have k:=St.takeRow d g j;exact k.perm ((List.Perm.cons _ (List.Perm.swap _ _ _)).trans (List.Perm.swap _ _ _))
theorem St.joinN (b:St w0 (Go.Eng.arr eo 1 hdF ad n cap hd::Sx e sz f hd css::H) w):St w0 (Gq eo e sz f ad n cap hd css::H) w:=by
 apply St.closeG;have c:=(b.perm (List.Perm.swap _ _ _)).openG;exact c.perm (List.perm_middle)
theorem St.splitN (b:St w0 (Gq eo e sz f ad n cap hd css::H) w):St w0 (Go.Eng.arr eo 1 hdF ad n cap hd::Sx e sz f hd css::H) w:=by
 have c:St w0 (Go.Eng.arr eo 1 hdF ad n cap hd::(rwL e sz f hd css++H)) w:=b.openG;have d:St w0 (Sx e sz f hd css::Go.Eng.arr eo 1 hdF ad n cap hd::H) w:=by
  apply St.closeG;exact c.perm (List.perm_middle.symm)
 exact d.perm (List.Perm.swap _ _ _)
theorem St.catRws (b:hd.length=css.length) (c:St w0 (Sx e sz f hd css::Sx e sz f hd' css'::H) w):St w0 (Sx e sz f (hd++hd') (css++css')::H) w:=by
 apply St.closeG;have d:St w0 (rwL e sz f hd css++(Sx e sz f hd' css'::H)) w:=c.openG;have g:=(d.perm List.perm_middle).openG;have:rwL e sz f (hd++hd') (css++css')=rwL e sz f hd css++rwL e sz f hd' css':=by unfold rwL;exact List.zipWith_append b
 rw [this];exact g.perm (by rw [←List.append_assoc];exact List.Perm.append_right _ List.perm_append_comm)
end
section
variable {eo e:Nat} {l l3:List β} {hd2:List Hd} {css2:List (List α)} {L3:List (List β)}
theorem NestOk.getE {L:List (List α)} {u:List α} {i:Int} (h:NestOk Eq hd css L) (b:getI L i=some u):∃(ad:Option Addr) (cap:Nat),getI hd i=some (ad,u.length,cap)/\hd[i.toNat]? = some (ad,u.length,cap)/\css[i.toNat]? = some u:=by
 obtain ⟨ad,cap,c,d,e,f,g⟩:=h.get b;have:c=u:=by
  clear d e f b
  induction g with
  | nil=>rfl
  | cons h _ ih=>rw [h,ih]
 subst this;exact ⟨ad,cap,d,e,f⟩
theorem Uq:∀(l:List α),All2 Eq l l
 | []=>.nil
 | _::l=>.cons rfl (Uq l)
theorem B34 (M':List (Nat×Value)) (i:Nat) (q:Int) {t:Nat} (off:Nat) (u u2:α) (x:β) (v:Value) {adi:Option Addr} {capi:Nat} (hq:NestOk S hd css L) (p:S u2 x) (hF:Fr N ds M a) (hS:St w0 H w) (hi:H[i]? = some (Gq eo e sz f ad L.length cap hd css)) (b:B5 ops N=true)
  (hs:StoreAt ops k M t (.pointer (some ((Cu adi j sz).add off))) v) (hf:∀x,(f x).length=sz) (s:hd[q.toNat]? = some (adi,l.length,capi)) (hc:css[q.toNat]? = some c) (y:All2 S c l) (hu:getI c j=some u) (hx:f u2=(f u).take off++v.cells.toList++(f u).drop (off+v.cells.toList.length)) (d:Nat.ble (off+v.cells.toList.length) sz=true)
  (z:pureSem P (sizeOf t)=some v.cells.size) (g:v.cells.toList.all Value.oneCell'=true) (b0:L0 l j x=some l3) (m:L0 L q l3=some L3) (hM:NextM ops k M undef M')
  (next:∀css3 w' a',Fr N ds M' a'->L.length=L3.length->l.length=l3.length->NestOk S hd css3 L3->St w0 (H.set i (Gq eo e sz f ad L.length cap hd css3)) w'->K a' w'):SK P r ops k K a w:=by
 have h1:=hS.openAt hi;have hg:=A3q (e:=e) (sz:=sz) (f:=f) s hc;have n:=A2t hg;refine B5m M' (q.toNat+1) off u u2 x v y p hF h1 (by rw [List.cons_append,List.getElem?_cons_succ,List.getElem?_append_left n];exact hg) b hs hf hu hx d z g b0 hM ?_;intro c3 w' a' g1 g2 g3 g4;have o:L.length=L3.length:=by obtain ⟨_,_,rfl⟩:=Rg m;simp
 refine next (css.set q.toNat c3) w' a' g1 o g2 (hq.set s g2 g3 m) (St.closeAt (A2t hi) ?_)
 rw [List.cons_append,List.set_cons_succ,List.set_append_left _ _ n] at g4;have h2:=A3r (e:=e) (sz:=sz) (f:=f) hd css q.toNat (adi,l.length,capi) c3;rw [A4v s] at h2;rw [h2];exact g4
theorem B2x (M':List (Nat×Value)) (q:Int) {t:Nat} {adi:Option Addr} {capi:Nat} (o:NestOk S hd css L) (p:All2 S c l3) (hF:Fr N ds M a) (y:St w0 (Go.Eng.arr eo 1 hdF ad L.length cap hd::Sx e sz f hd2 css2::Go.Eng.arr e sz f adi l3.length capi c::H) w)
  (d:hd2.set q.toNat (adi,l3.length,capi)=hd.set q.toNat (adi,l3.length,capi)) (g:css2.set q.toNat c=css.set q.toNat c) (i:B5 ops N=true)
  (hs:StoreAt ops k M t (.pointer (some (Cu ad q 1))) (.slice adi l3.length capi)) (s:pureSem P (sizeOf t)=some 1) (b:L0 L q l3=some L3) (z:NextM ops k M undef M')
  (next:∀j css3 w' a',Fr N ds M' a'->L.length=L3.length->NestOk S j css3 L3->St w0 (Gq eo e sz f ad L.length cap j css3::H) w'->K a' w'):SK P r ops k K a w:=by
 have h0:=Rg b;have m:q.toNat<hd.length:=by rw [o.lenH];omega
 obtain ⟨u,hu⟩:∃u,getI hd q=some u:=by
  refine ⟨hd[q.toNat],?_⟩;unfold getI;rw [if_pos h0.1,List.getElem?_eq_getElem m]
 have n:hd2.length=hd.length:=by
  have:=congrArg List.length d
  simpa using this
 have v:css2.length=css.length:=by
  have:=congrArg List.length g
  simpa using this
 refine B4h M' 0 (L:=L) (l:=l3) u (adi,l3.length,capi) o.lenH hF y rfl i hs hu s b z ?_;intro w' a' g1 g2 g3;refine next (hd.set q.toNat (adi,l3.length,capi)) (css.set q.toNat c) w' a' g1 g2 (o.put (h0:=(adi,l3.length,capi)) rfl p b) (St.joinN ?_)
 have g4:=St.putRow (h:=(adi,l3.length,capi)) (e:=e) (sz:=sz) (f:=f) (x:=c) (hd:=hd2) (xss:=css2) (H:=Go.Eng.arr eo 1 hdF ad L.length cap (hd.set q.toNat (adi,l3.length,capi))::H) q.toNat (by rw [n];exact m) (by rw [n,v];exact o.lenHC) (g3.perm ?_)
 ·rw [d,g] at g4;exact g4.perm (List.Perm.swap _ _ _)
 ·show List.Perm (Go.Eng.arr eo 1 hdF ad L.length cap (hd.set q.toNat (adi,l3.length,capi))::Sx e sz f hd2 css2::Go.Eng.arr e sz f adi l3.length capi c::H) _;exact (List.Perm.swap _ _ _).trans (List.Perm.cons _ (List.Perm.swap _ _ _))
theorem A9b (hd:List Hd):hd.flatMap hdF=(hd.map hdF).flatMap (fN 1):=by
 rw [List.flatMap_map];rfl
theorem A9r {R:Rel (List β)} (d:∀w,FrzAt ν w->(Gq eo e sz f ad L.length cap hd css).holds w) (k:NestOk S hd css L)
  (hR:∀(ad:Option Addr) (cap:Nat) (c:List α) (x:List β),(∀w,FrzAt ν w->Arr w sz f ad x.length cap c)->All2 S c x->R ν [.slice ad x.length cap] x):ArrQ ν 1 R ad cap (hd.map hdF) L:=by
 refine ⟨λw g=>?_,?_⟩
 ·have m:=Su (d w g);have o:=k.lenH;refine ⟨by simp,?_⟩;rw [List.length_map,←A9b,o];exact m.2
 ·obtain ⟨q1,q2⟩:=k;have b:∀(q:Nat) (h:Hd) (c:List α),hd[q]? = some h->css[q]? = some c->∀w,FrzAt ν w->Arr w sz f h.1 h.2.1 h.2.2 c:=λq h c i j w g=>A3g (d w g) i j
  clear d
  induction q1 generalizing css with
  | nil=>exact .nil
  | cons a1 a2 ih =>
   rename_i h l hd L
   cases q2 with
   | cons b1 b2 =>
    rename_i c css
    refine .cons ?_ (ih b2 λq h' c' i j=>b (q+1) h' c' (by simpa using i) (by simpa using j));have p:=b 0 h c rfl rfl;obtain ⟨ad,n,cap⟩:=h;have a1:n=l.length:=a1;subst a1;exact hR ad cap c l p b1
end
section
variable {ν:Type} [DecidableEq κ] {vf:ν->Value} {B:List (κ×ν)} {x:κ} {v:ν} {clock:Nat}
def Stp (es:List MapEntry) (clock:Nat):Prop:=(∀e∈es,e.born<clock)/\es.Pairwise (λa b=>a.born≠b.born)
theorem B1f (h:A20 kf vf es B) (i:Nat) (u:ν) (b:∀p,B[i]? = some p->p.1=x):A20 kf vf (es.modify i λe=>{ e with key:=kf x,val:=vf v }) (B.modify i λ_=>(x,v)):=by
 induction h generalizing i with
 | nil=>simp;exact .nil
 | cons h c ih =>
  cases i with
  | zero=>simp only [List.modify_zero_cons];exact .cons ⟨rfl,rfl⟩ c
  | succ i=>simp only [List.modify_succ_cons];exact .cons h (ih i λp d=>b p (by simpa using d))
theorem A5u {i:Nat} {y:α}:l.modify i (λ_=>y)=l.set i y:=by
 induction l generalizing i with
 | nil=>simp
 | cons a l ih=>cases i<;>simp [ih]
theorem B2c (h:Stp es clock) (i:Nat) (f:MapEntry->MapEntry) (c:∀e,(f e).born=e.born):Stp (es.modify i f) clock:=by
 have hb:(es.modify i f).map (·.born)=es.map (·.born):=by
  clear h
  induction es generalizing i with
  | nil=>simp
  | cons e es ih=>cases i with
   | zero=>simp [c]
   | succ i=>simp [ih]
 obtain ⟨d,g⟩:=h;have e1:∀(l:List MapEntry),(∀e∈l,e.born<clock)↔∀b∈l.map (·.born),b<clock:=λl=>by simp
 have e2:∀(l:List MapEntry),l.Pairwise (λa b=>a.born≠b.born)↔(l.map (·.born)).Pairwise (·≠·):=λl=>by rw [List.pairwise_map]
 refine ⟨?_,?_⟩
 ·rw [e1,hb,←e1];exact d
 ·rw [e2,hb,←e2];exact g
theorem B0m (h:Stp es clock) (k w:Value):Stp (es++[{ key:=k,val:=w,born:=clock }]) (clock+1):=by
 refine ⟨λe he=>?_,?_⟩
 ·rcases List.mem_append.1 he with he|he
  ·have:=h.1 e he;omega
  ·simp at he;subst he;exact Nat.lt_succ_self _
 ·refine List.pairwise_append.2 ⟨h.2,List.pairwise_singleton _ _,λa c b hb=>?_⟩;simp at hb;subst hb;have:=h.1 a c;simp only;omega
theorem B1e (h:A20 kf vf es B) {e:MapEntry} {p:κ×ν} (b:e.key=kf p.1) (c:e.val=vf p.2):A20 kf vf (es++[e]) (B++[p]):=All2.app h (.cons ⟨b,c⟩ .nil)
theorem B1j {B:List (κ×ν)} {i:Nat} (h:ixM B x=some i):∀p,B[i]? = some p->p.1=x:=by
 obtain ⟨_,p,c,d,_⟩:=A9e h;intro q b;rw [c] at b;cases b;exact d
variable {t e:TypeId}
theorem B5o (hb:∀x,Instr.sameBits 10000 (kf x) (kf x)=true) (w:World):(Instr.keyThatStays (kf x) (kf x)).run P w=.ok (kf x) w:=by
 simp [Instr.keyThatStays,hb x]
theorem B5l (o:Obj) (hb:w.heap[m]? = some (.map es.toArray clock)):(setObj m o).run P w=.ok () (w.putObj m o):=MapKept.run_setObj_map o hb
theorem B2j (c:KeyOk P kt kf) (ht:A2u P t kt e=true) (hb:w.heap[m]? = some (.map es.toArray clock)) (h:A20 kf vf es B) (hs:Stp es clock) (x:κ) (v:ν) :
  ∃es' clock',(Instr.mapUpdate t (.map (some m)) (kf x) (vf v)).run P w=.ok () (w.putObj m (.map es'.toArray clock'))/\A20 kf vf es' (upM B x v)/\Stp es' clock':=by
 obtain ⟨q,q1,q2,q3,q4⟩:=A6k c x h;have g:=q1 w;have i:=Ba _ _ (c.ck false x) w;have k:=MapKept.run_getObj_map (P:=P) hb
 cases q with
 | some p =>
  obtain ⟨j,u⟩:=p;have hj:ixM B x=some j:=q2.symm;obtain ⟨l,p,n,d,o⟩:=A9e hj;obtain ⟨en,e1,e2,e3⟩:=A6i h n;rw [d] at e2;have f:=B5o (P:=P) (x:=x) c.bits w;refine ⟨es.modify j λe=>{ e with key:=kf x,val:=vf v },clock,?_,?_,B2c hs j _ λ_=>rfl⟩
  ·have b:=B5l (P:=P) (.map (es.modify j λe=>{ e with key:=kf x,val:=vf v }).toArray clock) hb;simp [Instr.mapUpdate,run_underlying (Vc ht),k,i,g,e1,e2,f,b]
  ·rw [B2i hj,←A5u];exact B1f h j v (B1j hj)
 | none =>
  have hj:ixM B x=none:=q2.symm;refine ⟨es++[{ key:=kf x,val:=vf v,born:=clock }],clock+1,?_,?_,B0m hs _ _⟩
  ·have b:=B5l (P:=P) (.map (es++[({ key:=kf x,val:=vf v,born:=clock }:MapEntry)]).toArray (clock+1)) hb;simp [Instr.mapUpdate,run_underlying (Vc ht),k,i,g,b]
  ·rw [B2h hj];exact B1e h rfl rfl
end
section
variable {ν:Type} [DecidableEq κ] {e t:TypeId} {vf:ν->Value} {B:List (κ×ν)} {x:κ} {v d:ν}
theorem St.putMap {R R':Res} {i:Nat} {o o':Obj} (g:St w0 H w) (hi:H[i]? = some R) (ho:w.heap[m]? = some o) (f:∀k,R.foot k↔k=m) (b:R'.holds (w.putObj m o')) (c:∀k,R'.foot k->k=m):St w0 (H.set i R') (w.putObj m o'):=by
 refine g.upd hi rfl rfl rfl (by simp [World.putObj]) (λk _ d=>World.putObj_heap_other (λe=>d ((f k).2 e))) b (λk d=>.inl ((f k).2 (c k d)))
theorem Vu (M':List (Nat×Value)) (i:Nat) (x:κ) (v:ν) (g:KeyOk P kt kf) (hF:Fr N ds M a) (f:St w0 H w) (hi:H[i]? = some (A7s kf vf m B)) (b:B5 ops N=true) (hs:UniM ops k M (Instr.mapUpdate t (.map (some m)) (kf x) (vf v))) (ht:A2u P t kt e=true)
  (j:NextM ops k M undef M') (next:∀w' a',Fr N ds M' a'->St w0 (H.set i (A7s kf vf m (upM B x v))) w'->K a' w'):SK P r ops k K a w:=by
 obtain ⟨es,clock,c,l,n⟩:=f.res hi;obtain ⟨es',clock',g1,g2,g3⟩:=B2j (w:=w) g ht c l n x v;refine B5r hF b hs g1 j λa' d=>next _ a' d (f.putMap hi c (λ_=>Iff.rfl) ?_ λ_ h=>h)
 exact ⟨es',clock',World.putObj_heap_same (Array.getElem?_eq_some_iff.1 c).1,g2,g3⟩
end
def MNestOk {κ α β:Type} (S:α->β->Prop) (B:List (κ×Hd)) (css:List (List α)) (L:List (κ×List β)):Prop:=All2 (λ(h:κ×Hd) (p:κ×List β)=>h.1=p.1/\h.2.2.1=p.2.length) B L/\All2 (λc (p:κ×List β)=>All2 S c p.2) css L
section
variable [DecidableEq κ] {B:List (κ×Hd)} {L:List (κ×List β)} {x:κ} {i:Nat}
theorem MNestOk.mono {R:Rel β} {css:List (List (List Value))} (hR:R.Mono) (b:μ.le ν) (h:MNestOk (R μ) B css L):MNestOk (R ν) B css L:=⟨h.1,h.2.imp λ_ _ h=>All2.mono hR b h⟩
theorem MNestOk.ix (h:MNestOk S B css L) (x:κ):ixM B x=ixM L x:=by
 have b:=h.1
 clear h
 induction b with
 | nil=>rfl
 | cons h _ ih=>simp only [ixM,h.1,ih]
theorem A41 {δ:Type} {R:γ->δ->Prop} {xs:List γ} {ys:List δ} (h:All2 R xs ys) {i:Nat} {y:δ} (b:ys[i]? = some y):∃x,xs[i]? = some x/\R x y:=by
 induction h generalizing i with
 | nil=>simp at b
 | cons h _ ih=>cases i with
  | zero=>simp at b;subst b;exact ⟨_,rfl,h⟩
  | succ i=>obtain ⟨x,c,d⟩:=ih (by simpa using b);exact ⟨x,by simpa using c,d⟩
theorem MNestOk.at (h:MNestOk S B css L) (x:κ):(∃(i:Nat) (ad:Option Addr) (cap:Nat) (c:List α) (l:List β),ixM B x=some i/\B[i]? = some (x,(ad,l.length,cap))/\lkM B x=some (ad,l.length,cap)/\css[i]? = some c/\L[i]? = some (x,l)/\lkM L x=some l/\All2 S c l)\/(ixM B x=none/\ixM L x=none/\lkM B x=none/\lkM L x=none):=by
 have b:=h.ix x
 cases hi:ixM L x with
 | none =>
  rw [hi] at b;exact .inr ⟨b,rfl,by rw [A6s,b];rfl,by rw [A6s,hi];rfl⟩
 | some i =>
  rw [hi] at b;obtain ⟨g,p,e,d,f⟩:=A9e hi;obtain ⟨q,q1,q2,q3⟩:=A41 h.1 e;obtain ⟨c,c1,c2⟩:=A41 h.2 e;obtain ⟨k,l⟩:=p;obtain ⟨k',ad,n,cap⟩:=q;simp only at d q2 q3 c2;subst d q2 q3;exact .inl ⟨i,ad,cap,c,l,b,q1,by rw [A6s,b];simp [q1],c1,e,f,c2⟩
end
section
variable [DecidableEq κ] {e i:Nat} {B:List (κ×Hd)} {h:κ×Hd}
end
section
variable [DecidableEq κ] {kt te t e:Nat} {B:List (κ×Hd)} {L:List (κ×List β)} {x:κ}
end
theorem A3e (w:World) (o:Obj) (j:Nat) (h:j<w.heap.size):(w.alloc o).heap[j]? = w.heap[j]?:=by
 show (w.heap.push o)[j]? = _;rw [Array.getElem?_push,if_neg (Nat.ne_of_lt h)]
def arrT {α:Type} (e sz:Nat) (f:α->List Value) (ad:Option Addr) (n cap:Nat) (l:List α):Res where
 foot:=λk=>∃off,ad=some ⟨k,off,none⟩
 holds:=λw=>l.length=n/\(l.flatMap f).length=n*sz/\((ad=none/\n=0/\cap=0)\/∃g off cur fz,ad=some ⟨g,off,none⟩/\w.heap[g]? = some (.cells cur e fz)/\(fz=(0,0)\/cur.size<=fz.1)/\n<=cap/\cap<=maxLen/\off+cap*sz<=cur.size/\(cur.toList.drop off).take (n*sz)=l.flatMap f)
 loc:=λw w' h hb=>by
  refine ⟨hb.1,hb.2.1,?_⟩;rcases hb.2.2 with hn|⟨g,off,cur,fz,rfl,hg,rest⟩
  ·exact .inl hn
  ·exact .inr ⟨g,off,cur,fz,rfl,(h g ⟨off,rfl⟩).trans hg,rest⟩
 lt:=λw k hb hk=>by
  obtain ⟨off,rfl⟩:=hk;rcases hb.2.2 with ⟨hn,_⟩|⟨g,off',cur,fz,he,hg,_⟩
  ·cases hn
  ·cases he;exact (Array.getElem?_eq_some_iff.1 hg).1
section
variable {e i:Nat} {l2:List α}
theorem St.nilT (h:St w0 H w) (e sz:Nat) (f:α->List Value):St w0 (arrT e sz f none 0 0 ([]:List α)::H) w :=
 h.push (Ext.refl w) ⟨rfl,by simp,.inl ⟨rfl,rfl,rfl⟩⟩ (λb hb=>by obtain ⟨_,h⟩:=hb;cases h)
theorem B0z (h:(arrT e sz f ad n cap l).holds w):Arr w sz f ad n cap l:=by
 obtain ⟨o,p,q⟩:=h;refine ⟨o,ad,cap,rfl,p,?_⟩;rcases q with ⟨rfl,rfl,rfl⟩|⟨g,off,cur,fz,rfl,m,r,i,k,s,b⟩
 ·exact ⟨Nat.le_refl _,by simp [maxLen],λh=>by omega⟩
 ·refine ⟨i,k,λ_=>⟨_,rfl,(Array.getElem?_eq_some_iff.1 m).1,λj u c=>?_⟩⟩;have d:(⟨g,off,none⟩:Addr).add j=⟨g,off+j,none⟩:=by unfold Addr.add;split<;>simp_all
  rw [d];rw [←b,List.getElem?_take] at c
  split at c
  ·rw [List.getElem?_drop] at c;simp only [World.cell?,m]
   simpa using c
  ·cases c
theorem St.arrT_ {i:Nat} (h:St w0 H w) (hi:H[i]? = some (Go.Eng.arrT e sz f ad n cap l)):Arr w sz f ad n cap l:=B0z (h.holds _ (List.mem_of_getElem? hi))
end
section
variable {e:Nat}
theorem A1r (g o:Nat) (t:TypeId) (fz:Nat×Nat):∀(vs:List Value) (i:Nat) (cur:Array Value) (w:World),w.heap[g]? = some (.cells cur t fz)->(fz=(0,0)\/cur.size<=fz.1)->o+i+vs.length<=cur.size->(∀v∈vs,v.oneCell'=true) ->
  (storeCells ⟨g,o,none⟩ vs i).run P w=.ok () (w.setRow g (cur.toList.take (o+i)++vs++cur.toList.drop (o+i+vs.length)).toArray)
 | [],i,cur,w,c,_,_,_=>by
  simp only [storeCells,List.append_nil,List.length_nil,Nat.add_zero,List.take_append_drop,Array.toArray_toList];rw [setRow_self w g cur t fz c];rfl
 | v::rest,i,cur,w,c,d,k,m=>by
  have hi:o+i<cur.size:=by simp at k;omega
  have f:(⟨g,o,none⟩:Addr).add i=⟨g,o+i,none⟩:=by unfold Addr.add;split<;>simp_all
  have b:w.cell? ⟨g,o+i,none⟩=some cur[o+i]:=by simp [World.cell?,c,hi]
  have j:w.frozen? ⟨g,o+i,none⟩=false:=by
   obtain ⟨x,y⟩:=fz;simp only [World.frozen?,c];rcases d with h|h
   ·cases h;simp
   ·simp only [Bool.and_eq_false_iff,decide_eq_false_iff_not];left;simp only at h;omega
  have l:(store ((⟨g,o,none⟩:Addr).add i) v).run P w=.ok () (w.setRow g (cur.setIfInBounds (o+i) v)):=by
   rw [f,run_store P w _ v _ (m v (by simp)),b];simp [j,setCell_eq_setRow w g (o+i) cur t fz v c]
  have ih:=A1r g o t fz rest (i+1) (cur.setIfInBounds (o+i) v) (w.setRow g (cur.setIfInBounds (o+i) v)) (setRow_heap w g cur _ t _ c) (by simpa using d) (by simp at k ⊢;omega) (λx n=>m x (by simp [n]));simp only [storeCells,Sem.run_bind,l,Result.andThen_ok,ih,setRow_setRow]
  congr 3
  have e:=list_seg_step cur.toList (o+i) v rest (by simp at k ⊢;omega)
  simpa [Array.toList_setIfInBounds,Nat.add_assoc] using e
structure Src (P:Program) (w:World) (xt:TypeId) (sz:Nat) (x:Value) (n:Nat) (news:List Value):Prop where
 ty:∃u,P.underlying xt=some u/\((∃e,u=.slice e)\/u=.string)
 len:Builtin.lenOf x=pure n
 cells:∀w':World,(∀j,j<w.heap.size->w'.heap[j]? = w.heap[j]?)->(Builtin.firstCells sz n x).run P w'=.ok news.toArray w'
 size:news.length=n*sz
theorem Src.drew {x:Value} (h:Src P w xt sz x n news):(Builtin.firstCells sz n x).run P w.drew=.ok news.toArray w.drew:=h.cells w.drew (λ_ _=>rfl)
theorem Src.slice {u:Nat} (ht:P.underlying xt=some (.slice u)) (hs:Arr w sz f ad n cap l):Src P w xt sz (.slice ad n cap) n (l.flatMap f):=by
 obtain ⟨_,ad',cap',he,c,_,_,b⟩:=hs
 cases he
 refine ⟨⟨_,ht,.inl ⟨_,rfl⟩⟩,rfl,λw' e=>?_,c⟩
 by_cases hn:n=0
 ·subst hn;have:l.flatMap f=[]:=List.eq_nil_of_length_eq_zero (by rw [c];simp);rw [this]
  cases ad<;>simp [Builtin.firstCells,loadCells,loadCellsFrom]
 ·obtain ⟨a,rfl,hb,g⟩:=b (by omega);refine run_firstCells_some (P:=P) w' sz n a n cap (l.flatMap f) c (λj u i=>?_);have h:=g j u i;have d:(a.add j).block<w.heap.size:=by rw [V4];exact hb
  unfold World.cell? at h ⊢;rw [e _ d];exact h
def sby (s:ByteArray):List Int:=s.data.toList.map λb=>(b.toNat:Int)
theorem Zh (s:ByteArray):(sby s).length=s.size:=by unfold sby;rw [List.length_map];rfl
theorem A6l (g:β->Value) (l:List β):l.flatMap (λx=>[g x])=l.map g:=by induction l with|nil=>rfl|cons x l ih=>simp [List.flatMap_cons,ih]
theorem Src.string (s:ByteArray) (ht:P.underlying xt=some .string):Src P w xt 1 (.string s) s.size ((sby s).flatMap (fK .u8)):=by
 have e:(sby s).flatMap (fK .u8)=s.data.toList.map (λb=>Value.int .u8 b.toNat):=by
  show (sby s).flatMap (λx=>[Value.int .u8 x])=_;rw [A6l];unfold sby;rw [List.map_map];rfl
 refine ⟨⟨_,ht,.inr rfl⟩,rfl,λw' _=>?_,by rw [e,List.length_map,Nat.mul_one];rfl⟩;rw [e];simp only [Builtin.firstCells];show Result.ok _ _=_
 congr 1
 have c:s.extract 0 s.size=s:=by
  apply ByteArray.ext;rw [ByteArray.data_extract];exact Array.extract_size
 rw [c];apply Array.ext';simp
theorem A62 (w:World) (t xt ty e:TypeId) (i:TypeInfo) (z:Value) (ht:P.underlying t=some (.slice e)) (hi:P.info? e=some i) (k:i.zero=some z) {x:Value} (hs:Src P w xt i.size x n news)
  (hn:0<n) (l:(n:Int)<=9223372036854775807) (j:Builtin.nextslicecap n 0*i.bytes<=281474976710656) :
  (Builtin.append_ #[t,xt] ty #[.slice none 0 0,x]).run P w=.ok (.slice (some ⟨w.heap.size,0,none⟩) n (grownCap w n 0 e)) (w.drew.alloc (.cells (news.toArray++Builtin.zeroCells z.cells (grownCap w n 0 e-n)) e)):=by
 obtain ⟨u,m,d⟩:=hs.ty;have b:¬(9223372036854775807<(n:Int)):=by omega
 have c:¬(281474976710656<Builtin.nextslicecap n 0*i.bytes):=by omega
 have f:¬n=0:=by omega
 have hd:=hs.drew;have g:∀w':World,(Builtin.firstCells i.size 0 (.slice none 0 0)).run P w'=.ok #[] w':=λ_=>rfl;rcases d with ⟨e',rfl⟩|rfl<;>simp [Builtin.append_,run_underlying ht,run_underlying m,sizeOf,typeInfo,zeroValue,hi,k,hs.len,f,b,c,Question.forced,hd,g,newRow,grownCap]
theorem A4q (w:World) (t xt ty e:TypeId) (i:TypeInfo) (z:Value) (ht:P.underlying t=some (.slice e)) (hi:P.info? e=some i) (m:i.zero=some z) (b:Addr) (sLen sCap:Nat) (olds:List Value) (f:olds.length=sLen*i.size) (holds:∀j v,olds[j]? = some v->w.cell? (b.add j)=some v)
  {x:Value} (hs:Src P w xt i.size x n news) (q:sCap<sLen+n) (o:((sLen+n:Nat):Int)<=9223372036854775807) (l:Builtin.nextslicecap (sLen+n) sCap*i.bytes<=281474976710656) :
  (Builtin.append_ #[t,xt] ty #[.slice (some b) sLen sCap,x]).run P w =
   .ok (.slice (some ⟨w.heap.size,0,none⟩) (sLen+n) (grownCap w (sLen+n) sCap e)) (w.drew.alloc (.cells (olds.toArray++news.toArray++Builtin.zeroCells z.cells (grownCap w (sLen+n) sCap e-(sLen+n))) e)):=by
 obtain ⟨u,p,g⟩:=hs.ty;have hn:¬(sLen+n<=sCap):=by omega
 have c:¬(9223372036854775807<((sLen:Int)+(n:Int))):=by omega
 have d:¬(281474976710656<Builtin.nextslicecap (sLen+n) sCap*i.bytes):=by omega
 have hd:=hs.drew;have k:=run_firstCells_some (P:=P) w.drew i.size sLen b sLen sCap olds f (by simpa using holds);rcases g with ⟨e',rfl⟩|rfl<;>simp [Builtin.append_,run_underlying ht,run_underlying p,sizeOf,typeInfo,zeroValue,hi,m,hs.len,hn,c,d,Question.forced,hd,k,newRow,grownCap]<;>simp [←Array.append_assoc]
theorem A4s (w w':World) (t xt ty e:TypeId) (i:TypeInfo) (ht:P.underlying t=some (.slice e)) (hi:P.info? e=some i) (base:Addr) (sLen sCap:Nat)
  {x:Value} (hs:Src P w xt i.size x n news) (d:sLen+n<=sCap) (b:(storeCells (base.add (sLen*i.size)) news).run P w=.ok () w') :
  (Builtin.append_ #[t,xt] ty #[.slice (some base) sLen sCap,x]).run P w=.ok (.slice (some base) (sLen+n) sCap) w':=by
 obtain ⟨u,f,c⟩:=hs.ty;have hd:=hs.cells w (λ_ _=>rfl);rcases c with ⟨e',rfl⟩|rfl<;>simp [Builtin.append_,run_underlying ht,run_underlying f,sizeOf,typeInfo,hi,hs.len,d,hd,b]
theorem A4r (w:World) (t xt ty e:TypeId) (i:TypeInfo) (ht:P.underlying t=some (.slice e)) (hi:P.info? e=some i) {x:Value} (hs:Src P w xt i.size x 0 news) :
  (Builtin.append_ #[t,xt] ty #[.slice none 0 0,x]).run P w=.ok (.slice none 0 0) w:=by
 obtain ⟨u,c,b⟩:=hs.ty;have hd:=hs.cells w (λ_ _=>rfl);rcases b with ⟨e',rfl⟩|rfl<;>simp [Builtin.append_,run_underlying ht,run_underlying c,sizeOf,typeInfo,hi,hs.len,hd]
theorem B4q (M':Option Addr->Nat->List (Nat×Value)) (i:Nat) {t ty:Nat} {x:Value} (hF:Fr N ds M a) (hS:St w0 H w) (hi:H[i]? = some (arrT e sz f ad l.length cap l)) (b2:B5 ops N=true)
  (hs:EffAt ops k M (Builtin.append_ #[t,xt] ty #[.slice ad l.length cap,x])) (c2:R1 P t e sz bytes=true) (b:Src P w xt sz x l'.length (l'.flatMap f)) (h1:∀x∈l',(f x).all Value.oneCell'=true) (c3:apd bytes l l'=some l3)
  (hM:∀ad2 cap2,NextM ops k M (.slice ad2 l3.length cap2) (M' ad2 cap2))
  (next:∀ad2 cap2 w' a',Fr N ds (M' ad2 cap2) a'->St w0 (H.set i (arrT e sz f ad2 l3.length cap2 l3)) w'->K a' w'):SK P r ops k K a w:=by
 obtain ⟨rfl,hb,b3⟩:=E6 c3;have b4:=hS.holds _ (List.mem_of_getElem? hi);have c:(l++l').length=l.length+l'.length:=List.length_append;obtain ⟨_,s,h3⟩:=b4;obtain ⟨inf,z,ht,o,hz,b5,c5,c6,d4⟩:=Vs c2;subst b5 c5;have b6:∀u∈l'.flatMap f,u.oneCell'=true:=λu v=>by
  obtain ⟨x,hx,c8⟩:=List.mem_flatMap.1 v;exact List.all_eq_true.1 (h1 x hx) u c8
 have hl:=b.size;have fin:∀(ad2:Option Addr) (cap2:Nat) (w':World),(Builtin.append_ #[t,xt] ty #[.slice ad l.length cap,x]).run P w=.ok (.slice ad2 (l.length+l'.length) cap2) w' ->
   (arrT e inf.size f ad2 (l++l').length cap2 (l++l')).holds w'->w'.os=w.os->w'.tape=w.tape->w'.output=w.output->w.heap.size<=w'.heap.size->(∀j,j<w.heap.size->¬(Go.Eng.arrT e inf.size f ad l.length cap l).foot j->w'.heap[j]? = w.heap[j]?) ->
   (∀j,(Go.Eng.arrT e inf.size f ad2 (l++l').length cap2 (l++l')).foot j->(Go.Eng.arrT e inf.size f ad l.length cap l).foot j\/w.heap.size<=j)->SK P r ops k K a w:=by
  intro ad2 cap2 w' hr hh g1 g2 g3 g4 g5 g6;refine A7b hF b2 hs hr (by rw [←c];exact hM ad2 cap2) ?_;intro a' c9;exact next ad2 cap2 w' a' c9 (hS.upd hi g1 g2 g3 g4 g5 hh g6)
 have d:(l++l').flatMap f=l.flatMap f++l'.flatMap f:=List.flatMap_append;have y:((l++l').flatMap f).length=(l++l').length*inf.size:=by rw [d,List.length_append,s,hl,c,Nat.add_mul]
 have p:l.length+l'.length<=9223372036854775807:=by simp only [maxLen] at b3;omega
 have grown:∀(old:Nat),old<l.length+l'.length ->
   (Go.Eng.arrT e inf.size f (some ⟨w.heap.size,0,none⟩) (l++l').length (grownCap w (l.length+l'.length) old e) (l++l')).holds (w.drew.alloc (.cells ((l.flatMap f).toArray++(l'.flatMap f).toArray++Builtin.zeroCells z.cells (grownCap w (l.length+l'.length) old e-(l.length+l'.length))) e)):=by
  intro old ho;have d0:=grownCap_ge w (l.length+l'.length) old e;have b0:grownCap w (l.length+l'.length) old e<=maxLen:=grownCap_le_maxLen w (l.length+l'.length) old e b3;refine ⟨rfl,y,.inr ⟨w.heap.size,0,_,_,rfl,heap_alloc_new w.drew _,.inl rfl,by rw [c];exact d0,b0,?_,?_⟩⟩
  ·simp only [Array.size_append,List.size_toArray,size_zeroCells,c6,s,hl,←Nat.add_mul];rw [Nat.zero_add];exact Nat.mul_le_mul_right _ (by omega)
  ·simp only [Array.toList_append,List.drop_zero];rw [←y,d];exact List.take_left
 rcases h3 with ⟨rfl,h4,rfl⟩|⟨g,off,cur,fz,rfl,hg,b7,e2,b0,e3,n⟩
 ·have hx:l=[]:=List.eq_nil_of_length_eq_zero h4;subst hx
  by_cases hm:l'.length=0
  ·have hn:l'=[]:=List.eq_nil_of_length_eq_zero hm;subst hn;refine fin none 0 w ?_ ⟨rfl,by simp,.inl ⟨rfl,by simp,rfl⟩⟩ rfl rfl rfl (Nat.le_refl _) (λ_ _ _=>rfl) (λj hj=>.inl hj);exact A4r w t xt ty e inf ht o b
  ·have hr:=A62 (P:=P) w t xt ty e inf z ht o hz b (by omega) (by simp at p;omega) (growslice_fits (by omega) (by simpa using hb));have b8:=grown 0 (by simp;omega);simp only [List.length_nil,Nat.zero_add,List.nil_append,List.flatMap_nil,Array.empty_append] at b8 hr fin ⊢;refine fin _ _ _ hr b8 rfl rfl rfl (by simp) (λj hj _=>A3e w.drew _ j hj) (λj hj=>?_);obtain ⟨_,hj⟩:=hj
   cases hj
   exact .inr (Nat.le_refl _)
 ·by_cases m:l.length+l'.length<=cap
  ·have d5:(l.length+l'.length)*inf.size<=cap*inf.size:=Nat.mul_le_mul_right _ m;have q:=Nat.add_mul l.length l'.length inf.size;have b9:off+l.length*inf.size+(l'.flatMap f).length<=cur.size:=by rw [hl];omega
   have c0:=A1r (P:=P) g (off+l.length*inf.size) e fz (l'.flatMap f) 0 cur w hg b7 (by simpa using b9) b6;simp only [Nat.add_zero] at c0;refine fin (some ⟨g,off,none⟩) cap (w.setRow g (cur.toList.take (off+l.length*inf.size)++l'.flatMap f++cur.toList.drop (off+l.length*inf.size+(l'.flatMap f).length)).toArray) ?_ ⟨rfl,y,.inr ⟨g,off,_,fz,rfl,setRow_heap w g cur _ e _ hg,?_,by rw [c];exact m,b0,?_,?_⟩⟩ rfl rfl rfl (by simp [World.setRow]) (λj _ hj=>setRow_other w g j _ (λhe=>hj ⟨off,by rw [he]⟩)) (λj hj=>.inl hj)
   ·exact A4s w _ t xt ty e inf ht o _ _ _ b m (by rw [Addr.add_lit];exact c0)
   ·refine b7.imp id λh=>?_;have:cur.toList.length=cur.size:=by simp
    simp only [List.size_toArray,List.length_append,List.length_take,List.length_drop];omega
   ·have:cur.toList.length=cur.size:=by simp
    simp only [List.size_toArray,List.length_append,List.length_take,List.length_drop];omega
   ·have d2:cur.toList.length=cur.size:=by simp
    have hz:(cur.toList.take (off+l.length*inf.size)).length=off+l.length*inf.size:=by rw [List.length_take];omega
    rw [c,d,←n,Nat.add_mul,←hl];simp only [List.append_assoc];rw [List.drop_append_of_le_length (by omega),List.drop_take,Nat.add_sub_cancel_left,List.take_append,List.length_take,List.length_drop,d2];have e1:min (l.length*inf.size) (cur.size-off)=l.length*inf.size:=by omega
    rw [e1,List.take_of_length_le (by rw [List.length_take,List.length_drop];omega),Nat.add_sub_cancel_left,List.take_append_of_le_length (by omega),List.take_of_length_le (Nat.le_refl _)]
  ·have holds:∀j u,(l.flatMap f)[j]? = some u->w.cell? ((⟨g,off,none⟩:Addr).add j)=some u:=by
    intro j u v;have q:(⟨g,off,none⟩:Addr).add j=⟨g,off+j,none⟩:=by unfold Addr.add;split<;>simp_all
    rw [q];rw [←n,List.getElem?_take] at v
    split at v
    ·rw [List.getElem?_drop] at v;simp only [World.cell?,hg]
     simpa using v
    ·cases v
   have hr:=A4q (P:=P) w t xt ty e inf z ht o hz ⟨g,off,none⟩ l.length cap (l.flatMap f) s holds b (by omega) (by omega) (growslice_fits (by omega) hb);refine fin _ _ _ hr (grown cap (by omega)) rfl rfl rfl (by simp) (λj hj _=>A3e w.drew _ j hj) (λj hj=>?_);obtain ⟨_,hj⟩:=hj
   cases hj
   exact .inr (Nat.le_refl _)
def A0j (P:Program) (t:TypeId):Bool:=match P.underlying t with|some .string=>true|_=>false
theorem V8 {t:TypeId} (h:A0j P t=true):P.underlying t=some .string:=by
 unfold A0j at h
 split at h
 ·assumption
 ·cases h
theorem B4p (M':Option Addr->Nat->List (Nat×Value)) (i:Nat) {e:TypeId} {t ty:Nat} {s:ByteArray} {l l3:List Int} (hF:Fr N ds M a) (f:St w0 H w) (hi:H[i]? = some (arrT e 1 (fK .u8) ad l.length cap l)) (b:B5 ops N=true)
  (hs:EffAt ops k M (Builtin.append_ #[t,xt] ty #[.slice ad l.length cap,.string s])) (c:R1 P t e 1 bytes=true) (g:A0j P xt=true) (d:apd bytes l (sby s)=some l3)
  (j:∀ad2 cap2,NextM ops k M (.slice ad2 l3.length cap2) (M' ad2 cap2))
  (next:∀ad2 cap2 w' a',Fr N ds (M' ad2 cap2) a'->St w0 (H.set i (arrT e 1 (fK .u8) ad2 l3.length cap2 l3)) w'->K a' w'):SK P r ops k K a w :=
 B4q M' i hF f hi b hs c (by rw [Zh];exact Src.string s (V8 g)) (λ_ _=>rfl) d j next
end
section
variable {l:List β}
theorem B0y {l:List α} (h:All2 Eq c l):c=l:=by
 induction h with
 | nil=>rfl
 | cons h _ ih=>rw [h,ih]
theorem A40 {x:List α} (b:∀w,FrzAt ν w->Arr w sz f ad x.length cap c) (d:All2 Eq c x):ArrM ν sz f ad cap x:=by
 obtain rfl:=B0y d;exact b
theorem ArrQ.of_rows {R:Rel β} {c:List (List Value)} (d:∀w,FrzAt ν w->Arr w sz (fN sz) ad l.length cap c) (b:All2 (R ν) c l):ArrQ ν sz R ad cap c l:=by
 refine ⟨λw e=>?_,b⟩;rw [b.len];exact d w e
theorem Arr.tight {l:List α} (h:Arr w sz f ad n cap l):Arr w sz f ad l.length l.length l:=by
 obtain ⟨rfl,ad',cap',e,b,c,d,g⟩:=h
 cases e
 exact ⟨rfl,ad,l.length,rfl,b,Nat.le_refl _,Nat.le_trans c d,g⟩
theorem NestOk.one (h:All2 S c l):NestOk S [(ad,l.length,cap)] [c] [l]:=⟨.cons rfl .nil,.cons h .nil⟩
theorem NestOk.app {hd2:List Hd} {css2:List (List α)} {L2:List (List β)} (h:NestOk S hd css L) (b:NestOk S hd2 css2 L2):NestOk S (hd++hd2) (css++css2) (L++L2):=⟨h.1.app b.1,h.2.app b.2⟩
end
section
variable {e t:Nat}
theorem A9o (α:Type) (ei sz:Nat) (f:α->List Value) (S:α->β->Prop) (M':Nat->List (Nat×Value)) {n:Int} (hF:Fr N ds M a) (l:St w0 H w) (g:B5 ops N=true) (hs:EffAt ops k M (Instr.makeSlice t (.int .i64 n) (.int .i64 n)))
  (j:R1 P t e 1 bytes=true) (m:(P.info? e).bind (·.zero)=some (.slice none 0 0)) (c:mkI bytes n ([]:List β)=some L) (o:∀b,NextM ops k M (.slice (some ⟨b,0,none⟩) L.length L.length) (M' b))
  (next:∀b hd css w' a',Fr N ds (M' b) a'->NestOk S hd css L->St w0 (Gq e ei sz f (some ⟨b,0,none⟩) L.length L.length hd css::H) w'->K a' w'):SK P r ops k K a w:=by
 obtain ⟨h0,rfl,hb,p⟩:=A4j c;have d:(List.replicate n.toNat ([]:List β)).length=(List.replicate n.toNat Z5).length:=by simp
 have i:mkI bytes n Z5=some (List.replicate n.toNat Z5):=by
  unfold mkI at c ⊢
  split at c
  ·rename_i q;rw [if_pos q]
  ·cases c
 refine Xq M' Z5 hF l g hs j m (f:=hdF) rfl i (by rw [←d];exact o) ?_;intro b w' a' g1 g2;rw [←d] at g2;exact next b _ _ w' a' g1 (NestOk.rep _) (St.makeNest g2 ei sz f)
theorem B3s {ei:Nat} (M':Nat->List (Nat×Value)) (h:Hd) (hF:Fr N ds M a) (g:St w0 (Go.Eng.arr ei sz f h.1 h.2.1 h.2.2 c::H) w) (d:B5 ops N=true) (hs:EffAt ops k M (Instr.buildSlice t 1 #[(0,.slice h.1 h.2.1 h.2.2)]))
  (hb:R5 P t 1 #[(0,.slice h.1 h.2.1 h.2.2)]=some (e,#[.slice h.1 h.2.1 h.2.2])) (i:∀b,NextM ops k M (.slice (some ⟨b,0,none⟩) 1 1) (M' b))
  (next:∀b w' a',Fr N ds (M' b) a'->St w0 (Gq e ei sz f (some ⟨b,0,none⟩) 1 1 [h] [c]::H) w'->K a' w'):SK P r ops k K a w:=by
 refine A9n (f:=hdF) (sz:=1) M' _ _ [h] hF g d hs hb Z0 rfl rfl (by decide) i ?_;intro b w' a' g1 g2;refine next b w' a' g1 ?_
 apply St.closeG;exact g2
theorem B39 {ei cap2 ty:Nat} {ad2:Option Addr} {hd2:List Hd} {css2:List (List α)} {L2 L3:List (List β)} (M':Option Addr->Nat->List (Nat×Value)) (m:NestOk S hd css L) (n:NestOk S hd2 css2 L2) (hF:Fr N ds M a)
  (o:St w0 (Gq e ei sz f ad L.length cap hd css::Gq e ei sz f ad2 L2.length cap2 hd2 css2::H) w) (b:B5 ops N=true) (hs:EffAt ops k M (Builtin.append_ #[t,t] ty #[.slice ad L.length cap,.slice ad2 L2.length cap2])) (d:R1 P t e 1 bytes=true) (g:apd bytes L L2=some L3)
  (p:∀ad3 cap3,NextM ops k M (.slice ad3 L3.length cap3) (M' ad3 cap3))
  (next:∀ad3 cap3 w' a',Fr N ds (M' ad3 cap3) a'->St w0 (Gq e ei sz f ad3 L3.length cap3 (hd++hd2) (css++css2)::H) w'->K a' w'):SK P r ops k K a w:=by
 have q:=o.splitN;have s:St w0 (Gq e ei sz f ad2 L2.length cap2 hd2 css2::Go.Eng.arr e 1 hdF ad L.length cap hd::Sx ei sz f hd css::H) w:=q.perm ((List.Perm.cons _ (List.Perm.swap _ _ _)).trans (List.Perm.swap _ _ _));have j:=s.splitN;refine R3 (l:=L) (l':=L2) (c:=hd) (c':=hd2) M' 2 hF j rfl b hs d (by
  have:=j.arr (i:=0) rfl;exact this) (λx _=>rfl) g p ?_
 intro ad3 cap3 w' a' g1 g2;refine next ad3 cap3 w' a' g1 (St.joinN ?_)
 have g3:St w0 (Sx ei sz f hd2 css2::Go.Eng.arr e 1 hdF ad3 L3.length cap3 (hd++hd2)::Sx ei sz f hd css::H) w':=g2.drop1;have g4:St w0 (Sx ei sz f hd css::Sx ei sz f hd2 css2::Go.Eng.arr e 1 hdF ad3 L3.length cap3 (hd++hd2)::H) w':=g3.perm ((List.Perm.cons _ (List.Perm.swap _ _ _)).trans (List.Perm.swap _ _ _));have g5:=St.catRws m.lenHC g4;exact g5.perm (List.Perm.swap _ _ _)
end
def isU (v:Value):Bool:=match v with|.bool _=>false|_=>true
structure SkipU (ops:Array Oper) (k:Nat) (M:List (Nat×Value)):Prop where
 eq:(((ops[k]?).bind (·.guard)).bind λg=>(dstAt ops g.1).bind λd=>(lookM M d).map isU)=some true
section
theorem Gj (k':Nat) (M':List (Nat×Value)) (hF:Fr N ds M a) (c:B5 ops N=true) (hs:SkipU ops k M) (i:NextM ops k M undef M') (j:k+1=k')
  (next:∀a',Fr N ds M' a'->WI P r ops Q k' a' w):WI P r ops Q k a w:=by
 have hs:=hs.eq
 cases ho:ops[k]? with
 | none=>rw [ho] at hs;simp at hs
 | some o =>
  rw [ho] at hs;simp only [Option.bind_some] at hs
  cases e:o.guard with
  | none=>rw [e] at hs;simp at hs
  | some g =>
   rw [e] at hs;simp only [Option.bind_some] at hs;have l:(yielded ops a.tmps g.1==some g.2)=false:=by
    cases hd:dstAt ops g.1 with
    | none=>rw [hd] at hs;simp at hs
    | some d =>
     rw [hd] at hs;simp only [Option.bind_some] at hs
     cases f:lookM M d with
     | none=>rw [f] at hs;simp at hs
     | some v =>
      rw [f] at hs;simp only [Option.map_some,Option.some.injEq] at hs;have b:=hF.get f;have:yielded ops a.tmps g.1=none:=by
       unfold yielded;rw [show (ops[g.1]?).bind (·.dst)=some d from hd];rw [Array.getD_eq_getD_getElem?] at b
       cases ht:a.tmps[d]? with
       | none=>simp [ht]
       | some u =>
        rw [ht] at b;simp at b;subst b
        cases u<;>first|(simp [ht];done)|(simp [isU] at hs)
      rw [this];rfl
   refine WI.cons (R:=λv w'=>v=undef/\w'=w) ho ?_ ?_
   ·unfold OpG;have:Region.wanted o (yielded ops a.tmps)=false:=by simp only [Region.wanted,e];exact l
    rw [this];exact ⟨rfl,rfl⟩
   ·rintro v w' ⟨rfl,rfl⟩;rw [j];exact next _ (Hl ho c hF i)
end
section
variable {f:γ->Value} {css:List (List (So γ n))} {L L3:List (List (So γ n))} {l l3:List (So γ n)} {eo e:Nat}
end
def Ts (s:ByteArray) (i:Int):Option Int:=if 0<=i/\i<s.size then some ((s[i.toNat]!).toNat:Int) else none
def nmC (x:Nat):Bool:=!(decide (97<=x)&&decide (x<=122)||decide (48<=x)&&decide (x<=57)||x==95)
def A9t (s:ByteArray):Bool:=decide (0<=Lib.idxFunc nmC true s)
def bst (l:List Int):ByteArray:=⟨(l.map λx=>UInt8.ofNat x.toNat).toArray⟩
def A56 (k:IntKind) (x y:Int):Int:=k.wrap ((BitVec.ofInt k.bits x ^^^ BitVec.ofInt k.bits y).toNat)
section
variable {cs:List Cd}
def s2b (s:ByteArray):Option (List Int):=if s.size<=9223372036854775807 then some (sby s) else none
theorem B0d {s:ByteArray} {l:List Int} (h:s2b s=some l):l=sby s/\s.size<=maxLen:=by
 unfold s2b at h
 split at h
 ·cases h;exact ⟨rfl,by simpa [maxLen]⟩
 ·cases h
theorem T7 {t:TypeId} {s:ByteArray} {i u:Int} (ht:A0j P t=true) (h:Bi cs=true->Ts s i=some u):Ob.ok P T D (.run cs (Instr.index t (.string s) (.int .i64 i)) (.int .u8 u)):=by
 intro c w' _;have h:=h c;unfold Ts at h
 split at h
 ·rename_i d
  cases h
  have b:i.toNat<s.size:=by omega
  have e1:s[i.toNat]? = some (s[i.toNat]!):=by
   rw [getElem?_pos s i.toNat b,getElem!_pos s i.toNat b]
  simp [Instr.index,run_underlying (V8 ht),asIntOf,d.1,e1]
 ·cases h
def sEq (a b:ByteArray):Bool:=decide (a.data.toList=b.data.toList)
theorem Zg {a b:ByteArray}:sEq a b=true↔a=b:=by
 unfold sEq;rw [decide_eq_true_eq];constructor
 ·intro h;have:a.data=b.data:=Array.toList_inj.1 h
  cases a;cases b;simp only [ByteArray.mk.injEq];exact this
 ·rintro rfl;rfl
theorem A1s (a b:ByteArray):(a.toList==b.toList)=sEq a b:=by
 rw [Lib.toList_data,Lib.toList_data];unfold sEq;rw [Bool.eq_iff_iff];simp
theorem Uw {t:TypeId} {a b:ByteArray}:Ob.ok P T D (.run cs (Sr .eql t a b) (.bool (sEq a b))):=λ_ w' _=>by
 rw [←A1s];simp [Sr,eqGuard,binOp,Op.stringOp]
theorem A30 {t:TypeId} {a b:ByteArray}:Ob.ok P T D (.run cs (Sr .neq t a b) (.bool (!sEq a b))):=λ_ w' _=>by
 rw [←A1s];simp [Sr,eqGuard,binOp,Op.stringOp]
structure ConvAt (ops:Array Oper) (k:Nat) (M:List (Nat×Value)) (src dst:TypeId) (v:Value):Prop where
 eq:((plainAt ops k M).bind λo=>match o.op with|.convert s t x=>some (s,t,rhoE (ofM M) x)|_=>none)=some (src,dst,v)
theorem B3f (e:TypeId) (M':Option Addr->Nat->List (Nat×Value)) {src dst:TypeId} {s:ByteArray} {l3:List Int} (hF:Fr N ds M a) (q:St w0 H w) (c:B5 ops N=true) (hs:ConvAt ops k M src dst (.string s)) (t:A0j P src=true) (u:P.underlying dst=some (.slice e)) (y:P.underlying e=some (.int .u8)) (f:s2b s=some l3)
  (z:∀ad cap,NextM ops k M (.slice ad l3.length cap) (M' ad cap))
  (next:∀ad cap w' a',Fr N ds (M' ad cap) a'->St w0 (arrT e 1 (fK .u8) ad l3.length cap l3::H) w'->K a' w'):SK P r ops k K a w:=by
 obtain ⟨rfl,g⟩:=B0d f;have hs:=hs.eq
 cases ho:plainAt ops k M with
 | none=>rw [ho] at hs;simp at hs
 | some o =>
  rw [ho] at hs;simp only [Option.bind_some] at hs
  split at hs
  ·rename_i s' t' x i
   simp at hs;obtain ⟨rfl,rfl,hx⟩:=hs;have hr:=Lib.run_convert_string_bytes (P:=P) w s' t' e s (V8 t) u y;refine B1x (v:=.slice (some ⟨w.heap.size,0,none⟩) s.size (grownCap w s.size 0 e)) hF c ho (w':=Lib.bytesWorld w e s) ?_ (by rw [←Zh];exact z _ _) ?_
   ·unfold execOp;rw [i];simp [hx,hr]
   ·intro a' d;rw [Zh] at d;have l:=grownCap_ge w s.size 0 e;have m:grownCap w s.size 0 e<=maxLen:=grownCap_le_maxLen w s.size 0 e g;have n:(Lib.bytesCells w e s).size=grownCap w s.size 0 e:=by
     simp only [Lib.bytesCells,Array.size_append,Array.size_map,Array.size_replicate];show s.size+_=_;omega
    have p:Ext w (Lib.bytesWorld w e s):=⟨rfl,rfl,rfl,by rw [Lib.bytesWorld_size];omega,λj hj=>Lib.bytesWorld_at_old w e s j hj⟩;refine next _ _ _ a' d (q.push p ⟨rfl,?_,.inr ⟨w.heap.size,0,_,_,rfl,Lib.bytesWorld_at_new w e s,.inr (Nat.le_refl _),by rw [Zh];exact l,m,by rw [n];omega,?_⟩⟩ ?_)
    ·show (List.flatMap (λx=>[Value.int .u8 x]) (sby s)).length=_;rw [A6l,List.length_map,Nat.mul_one]
    ·show _=List.flatMap (λx=>[Value.int .u8 x]) (sby s);rw [A6l,List.drop_zero,Nat.mul_one,Zh];simp only [Lib.bytesCells,Array.toList_append,Array.toList_map];rw [List.take_left' (by rw [List.length_map];rfl)];unfold sby;rw [List.map_map];rfl
    ·rintro b ⟨off,hb⟩
     cases hb
     exact Nat.le_refl _
  ·simp at hs
def Py (P:Program) (f:FuncId) (args:Array Value) (w:World) {α ε:Type} (y:Except (Value×ε) α) (R:α->Value->World->Prop) (Rp:ε->World->Prop):Prop :=
 Calls P f args w (λe w'=>(∃x v,y=.ok x/\e=.returned v/\R x v w')\/∃x,y=.error x/\e=.panicked [{ v:=x.1,recovered:=false }]/\Rp x.2 w')
theorem L4 (M':Value->List (Nat×Value)) {f:FuncId} {ε:Type} {y:Except (Value×ε) α} {R:α->Value->World->Prop} {Rp:ε->World->Prop} (hF:Fr N ds M a) (d:B5 ops N=true) (hs:CallAt P ops k M f args)
  (i:Py P f args w y R Rp) (j:∀v,NextM ops k M v (M' v))
  (l:∀x w',y=.error x->Rp x.2 w'->Q (.panic [{ v:=x.1,recovered:=false }]) a w')
  (next:∀x v w' a',y=.ok x->R x v w'->Fr N ds (M' v) a'->WI P r ops Q (k+1) a' w'):WI P r ops Q k a w :=
 B4u M' (R:=λv w'=>∃x,y=.ok x/\R x v w') (Rp:=λch w'=>∃x,y=.error x/\ch=[{ v:=x.1,recovered:=false }]/\Rp x.2 w') hF d hs
  (Calls.mono i (by
   rintro e w' (⟨x,v,b,rfl,c⟩|⟨x,b,rfl,c⟩)
   ·exact .inl ⟨v,rfl,x,b,c⟩
   ·exact .inr ⟨_,rfl,x,b,rfl,c⟩)) j
  (by rintro ch w' ⟨x,b,rfl,c⟩;exact l x w' b c)
  (by rintro v w' a' ⟨x,b,c⟩ g;exact next x v w' a' b c g)
theorem A37 {B:List PanicEntry->World->Prop} (M':Value->List (Nat×Value)) {f:FuncId} {ε:Type} {y:Except (Value×ε) α} {R:α->Value->World->Prop} {Rp:ε->World->Prop} (hF:Fr N ds M a) (b:B5 ops N=true) (hs:CallAt P ops k M f args)
  (g:Py P f args w y R Rp) (i:∀v,NextM ops k M v (M' v))
  (j:∀x w',y=.error x->Rp x.2 w'->B [{ v:=x.1,recovered:=false }] w')
  (next:∀x v w' a',y=.ok x->R x v w'->Fr N ds (M' v) a'->K a' w'):SKB P r ops k B K a w:=by
 have hs:=hs.eq
 cases ho:plainAt ops k M with
 | none=>rw [ho] at hs;simp at hs
 | some o =>
  rw [ho] at hs;simp only [Option.bind_some] at hs
  split at hs
  ·rename_i f' args' c
   simp at hs;obtain ⟨rfl,rfl⟩:=hs;obtain ⟨d,l,m⟩:=Jc (r:=r) ho hF;refine ⟨o,d,.inr ⟨l,f',args',w,?_,Calls.mono g ?_⟩⟩
   ·rw [m,Ba _ _ c w]
   ·rintro e w' (⟨x,v,e1,rfl,hv⟩|⟨x,e1,rfl,hv⟩)
    ·exact .inl ⟨v,rfl,next x v w' _ e1 hv (Hl d b hF (i v))⟩
    ·exact .inr ⟨_,rfl,j x w' e1 hv⟩
  ·simp at hs
theorem X9 (hd:a'.defers=[]) (hR:R (.panicked ch) w):bodyPost P fn R (.panic ch) a' w:=⟨hd,hR⟩
def asI (t:Nat) (k:IntKind) (v:Value):Option Int:=match v with|.iface u (.int k' z)=>if u=t/\k'=k then some z else none|_=>none
theorem B3a {t:Nat} {k:IntKind} {z:Int} (h:asI t k v=some z):v=.iface t (.int k z):=by
 unfold asI at h
 split at h
 ·split at h
  ·rename_i b;cases h;obtain ⟨rfl,rfl⟩:=b;rfl
  ·cases h
 ·cases h
end
abbrev FM:=List (Nat×Value)
class Pre (n M:FM) (M':outParam FM):Prop
instance {M:FM}:Pre [] M M:=⟨⟩
instance {e:Nat×Value} {n M M':FM} [Pre n M M']:Pre (e::n) M (e::M'):=⟨⟩
class SetL (l:List Value) (i:Nat) (v:Value) (l':outParam (List Value)):Prop
instance {x v:Value} {l:List Value}:SetL (x::l) 0 v (v::l):=⟨⟩
instance {x v:Value} {l l':List Value} {i:Nat} [SetL l i v l']:SetL (x::l) (i+1) v (x::l'):=⟨⟩
class Spt (n:Nat) (l:List Nat) (a b:outParam (List Nat)):Prop
instance {l:List Nat}:Spt 0 l [] l:=⟨⟩
instance {n x:Nat} {l a b:List Nat} [Spt n l a b]:Spt (n+1) (x::l) (x::a) b:=⟨⟩
theorem B6d {α:Type _} {a b:α} (h:some a=some b):a=b:=Option.some.inj h
section
variable {M M':FM}
theorem qn (n k':Nat) (nw:FM) (hF:Fr N ds M a) (next:∀a',Fr N ds M' a'->WI P r ops Q k' a' w) [Pre nw M M'] (b:B5 ops N=true:=by kernel_rfl) (h:Ends P ops n k M M' []:=by exact ⟨by kernel_rfl⟩) (c:k+n=k':=by rfl):WI P r ops Q k a w :=
 A4p k' M' hF b A4 h c next
theorem qo (n k':Nat) (nw:FM) (hF:Fr N ds M a) (d:Obs P (λa b=>b=a) (λx=>x=w) obs) (next:∀a',Fr N ds M' a'->WI P r ops Q k' a' w) [Pre nw M M'] (c:B5 ops N=true:=by kernel_rfl) (h:Ends P ops n k M M' obs:=by exact ⟨by kernel_rfl⟩) (e:k+n=k':=by rfl):WI P r ops Q k a w :=
 A4p k' M' hF c d h e next
theorem qx (n k':Nat) (nw:FM) (hF:Fr N ds M a) (c:Obs P Ext (Ext w) obs) (next:∀a' w',Fr N ds M' a'->Ext w w'->WI P r ops Q k' a' w') [Pre nw M M'] (b:B5 ops N=true:=by kernel_rfl) (h:Ends P ops n k M M' obs:=by exact ⟨by kernel_rfl⟩) (d:k+n=k':=by rfl):WI P r ops Q k a w :=
 B5k k' M' hF b c h d next
end
section
variable {y:Code} {M M':FM}
theorem qnB (nw:FM) (hF:Fr N ds M a) (next:∀a',Fr N ds M' a'->WP P r y Q a' w) [Pre nw M M'] (b:B5 ops N=true:=by kernel_rfl) (h:Ends P ops ops.size 0 M M' []:=by exact ⟨by kernel_rfl⟩):WP P r (.seq (.region id ops false) y) Q a w :=
 esr (A4p ops.size M' hF b A4 h (Nat.zero_add _) λa' c=>wfn (Nat.beq_refl _) (next a' c))
theorem qoB (nw:FM) (hF:Fr N ds M a) (d:Obs P (λa b=>b=a) (λx=>x=w) obs) (next:∀a',Fr N ds M' a'->WP P r y Q a' w) [Pre nw M M'] (c:B5 ops N=true:=by kernel_rfl) (h:Ends P ops ops.size 0 M M' obs:=by exact ⟨by kernel_rfl⟩):WP P r (.seq (.region id ops false) y) Q a w :=
 esr (A4p ops.size M' hF c d h (Nat.zero_add _) λa' e=>wfn (Nat.beq_refl _) (next a' e))
theorem rnB (M':FM) (hF:Fr N ds M a) (next:∀a',Fr N ds M' a'->WP P r y Q a' w) (b:B5 ops N=true:=by kernel_rfl) (h:Ends P ops ops.size 0 M M' []:=by exact ⟨by kernel_rfl⟩):WP P r (.seq (.region id ops false) y) Q a w :=
 esr (A4p ops.size M' hF b A4 h (Nat.zero_add _) λa' c=>wfn (Nat.beq_refl _) (next a' c))
theorem roB (M':FM) (hF:Fr N ds M a) (d:Obs P (λa b=>b=a) (λx=>x=w) obs) (next:∀a',Fr N ds M' a'->WP P r y Q a' w) (c:B5 ops N=true:=by kernel_rfl) (h:Ends P ops ops.size 0 M M' obs:=by exact ⟨by kernel_rfl⟩):WP P r (.seq (.region id ops false) y) Q a w :=
 esr (A4p ops.size M' hF c d h (Nat.zero_add _) λa' e=>wfn (Nat.beq_refl _) (next a' e))
end
section
variable {M M':FM}
theorem ro (n k':Nat) (M':FM) (hF:Fr N ds M a) (d:Obs P (λa b=>b=a) (λx=>x=w) obs) (next:∀a',Fr N ds M' a'->WI P r ops Q k' a' w) (c:B5 ops N=true:=by kernel_rfl) (h:Ends P ops n k M M' obs:=by exact ⟨by kernel_rfl⟩) (e:k+n=k':=by rfl):WI P r ops Q k a w :=
 A4p k' M' hF c d h e next
theorem rX (n k':Nat) (M':FM) (hF:Fr N ds M a) (c:Obs P Ext (Ext w) obs) (next:∀a' w',Fr N ds M' a'->Ext w w'->WI P r ops Q k' a' w') (b:B5 ops N=true:=by kernel_rfl) (h:Ends P ops n k M M' obs:=by exact ⟨by kernel_rfl⟩) (d:k+n=k':=by rfl):WI P r ops Q k a w :=
 B5k k' M' hF b c h d next
theorem rD (m:Nat) (M':FM) (hF:Fr N ds M a) (b:Obs P Ext (Ext w) obs) (next:∀a' w',Fr N ds M' a'->Ext w w'->WI P r ops Q m a' w') (c:P.follows .mixedOrders=true:=by kernel_rfl) (d:(B5 ops N&&T8 ops m&&Nx ops m&&J7 ops&&Nat.ble m ops.size)=true:=by kernel_rfl)
  (h:Ends P ops m 0 M M' obs:=by exact ⟨by kernel_rfl⟩):WP P r (.region id ops true) Q a w:=B5j m M' c hF d b h next
theorem qD (m:Nat) (nw:FM) (hF:Fr N ds M a) (b:Obs P Ext (Ext w) obs) (next:∀a' w',Fr N ds M' a'->Ext w w'->WI P r ops Q m a' w') [Pre nw M M'] (c:P.follows .mixedOrders=true:=by kernel_rfl) (d:(B5 ops N&&T8 ops m&&Nx ops m&&J7 ops&&Nat.ble m ops.size)=true:=by kernel_rfl)
  (h:Ends P ops m 0 M M' obs:=by exact ⟨by kernel_rfl⟩):WP P r (.region id ops true) Q a w:=B5j m M' c hF d b h next
theorem qs (t i off:Nat) (v:Value) {cs cs':List Value} (hF:Fr N ds M a) (j:St w0 H w) (hi:H[i]? = some (blk b tt cs.toArray)) (next:∀w' a',Fr N ds M a'->St w0 (H.set i (blk b tt cs'.toArray)) w'->K a' w') [SetL cs off v cs'] (c:B5 ops N=true:=by kernel_rfl)
  (hs:StoreAt ops k M t (.pointer (some ⟨b,off,none⟩)) v:=by exact ⟨by kernel_rfl⟩) (f:pureSem P (sizeOf t)=some v.cells.size:=by kernel_rfl) (d:v.cells.toList.all Value.oneCell'=true:=by kernel_rfl) (e:Nat.ble (off+v.cells.size) cs.toArray.size=true:=by kernel_rfl) (g:A09 cs.toArray off v.cells.toList=cs'.toArray:=by kernel_rfl)
  (l:NextM ops k M undef M:=by exact ⟨by kernel_rfl⟩):SK P r ops k K a w:=H7 M i off v cs'.toArray hF j hi c hs f d e g l next
theorem qB {M':Nat->FM} (t:TypeId) (v:Value) (cs:Array Value) (nw:Nat->FM) (hF:Fr N ds M a) (e:St w0 H w) (next:∀b w' a',Fr N ds (M' b) a'->St w0 (blk b t cs::H) w'->K a' w') [∀b,Pre (nw b) M (M' b)] (c:B5 ops N=true:=by kernel_rfl) (hs:EffAt ops k M (Instr.box t v):=by exact ⟨by kernel_rfl⟩) (d:v.cells=cs:=by kernel_rfl)
  (f:∀b,NextM ops k M (.pointer (some ⟨b,0,none⟩)) (M' b):=by exact λ_=>⟨by kernel_rfl⟩):SK P r ops k K a w:=B4s M' v cs hF e c hs d f next
theorem qA {M':Nat->FM} (t:TypeId) (cs:Array Value) (nw:Nat->FM) (hF:Fr N ds M a) (d:St w0 H w) (next:∀b w' a',Fr N ds (M' b) a'->St w0 (blk b t cs::H) w'->K a' w') [∀b,Pre (nw b) M (M' b)] (c:B5 ops N=true:=by kernel_rfl) (hs:EffAt ops k M (Instr.alloc t true (.tuple #[])):=by exact ⟨by kernel_rfl⟩)
  (e:((P.info? t).bind (·.zero)).map Value.cells=some cs:=by kernel_rfl) (f:∀b,NextM ops k M (.pointer (some ⟨b,0,none⟩)) (M' b):=by exact λ_=>⟨by kernel_rfl⟩):SK P r ops k K a w:=A8h M' cs hF d c hs e f next
theorem qR {M':Value->FM} (nw:Value->FM) {f:FuncId} {R:Value->World->Prop} (hF:Fr N ds M a) (c:Xx P f args w R) (next:∀v w' a',R v w'->Fr N ds (M' v) a'->K a' w') [∀v,Pre (nw v) M (M' v)] (b:B5 ops N=true:=by kernel_rfl) (hs:CallAt P ops k M f args:=by exact ⟨by kernel_rfl⟩)
  (d:∀v,NextM ops k M v (M' v):=by exact λ_=>⟨by kernel_rfl⟩):SK P r ops k K a w:=B2q M' hF b hs c d next
theorem rR (M':Value->FM) {f:FuncId} {R:Value->World->Prop} (hF:Fr N ds M a) (c:Xx P f args w R) (next:∀v w' a',R v w'->Fr N ds (M' v) a'->K a' w') (b:B5 ops N=true:=by kernel_rfl) (hs:CallAt P ops k M f args:=by exact ⟨by kernel_rfl⟩)
  (d:∀v,NextM ops k M v (M' v):=by exact λ_=>⟨by kernel_rfl⟩):SK P r ops k K a w:=B2q M' hF b hs c d next
theorem St.i (h:St w0 H w):∀w',w'=w->St w0 H w':=λ_ e=>h.at_ e
theorem St.e (h:St w0 H w):∀w',Ext w w'->St w0 H w':=λ_ e=>h.later e
theorem oL (t i j:Nat) {u:Value} (hs:∀w',D w'->St w0 H w') (hi:H[i]? = some (blk b tt cs)) (hj:cs[j]? = some u) (l:Obs P T D obs) (ht:T6 P t=true:=by kernel_rfl):Obs P T D (.run [] (Instr.loadAt t (.pointer (some ⟨b,j,none⟩))) u::obs) :=
 Lq (ob1 ht λw' hd=>(hs w' hd).cell hi hj) l
theorem oN (t i off n:Nat) (hs:∀w',D w'->St w0 H w') (hi:H[i]? = some (blk b tt cs)) (l:Obs P T D obs) (ht:Sp P t=some ((cs.toList.drop off).take n).length:=by kernel_rfl) (hn:(cs.toList.drop off).take ((cs.toList.drop off).take n).length=(cs.toList.drop off).take n:=by kernel_rfl) :
  Obs P T D (.run [] (Instr.loadAt t (.pointer (some ⟨b,off,none⟩))) (.agg ((cs.toList.drop off).take n).toArray)::obs):=Lq (obN ht λw' hd=>((hs w' hd).blk hi).cells hn) l
theorem oA (t:TypeId) {x y z:Int} (h:ck (x+y)=some z) (l:Obs P T D obs):Obs P T D (.run [] (binOp .add t (.int .i64 x) (.int .i64 y)) (.int .i64 z)::obs):=Lq (A3h λ_=>h) l
theorem oS (t:TypeId) {x y z:Int} (h:ck (x-y)=some z) (l:Obs P T D obs):Obs P T D (.run [] (binOp .sub t (.int .i64 x) (.int .i64 y)) (.int .i64 z)::obs):=Lq (A3i λ_=>h) l
theorem oM (t:TypeId) {x y z:Int} (h:ck (x*y)=some z) (l:Obs P T D obs):Obs P T D (.run [] (binOp .mul t (.int .i64 x) (.int .i64 y)) (.int .i64 z)::obs):=Lq (B3z λ_=>h) l
theorem oQ (t:TypeId) {x y z:Int} (h:A26 x y=some z) (l:Obs P T D obs):Obs P T D (.run [] (binOp .quo t (.int .i64 x) (.int .i64 y)) (.int .i64 z)::obs):=Lq (B43 λ_=>h) l
theorem oR (t:TypeId) {x y z:Int} (h:Wr x y=some z) (l:Obs P T D obs):Obs P T D (.run [] (binOp .rem t (.int .i64 x) (.int .i64 y)) (.int .i64 z)::obs):=Lq (B46 λ_=>h) l
theorem oC {f:FuncId} (h:∀w',D w'->Calls P f args w' (λe w''=>e=.returned v/\T w' w'')) (l:Obs P T D obs):Obs P T D (.call [] f args v::obs):=Lq (show Ob.ok P T D (.call [] f args v) from λ_=>h) l
theorem oX (o:Ob) (h:Ob.ok P T D o) (l:Obs P T D obs):Obs P T D (o::obs):=Lq h l
def Ob.gd (cs:List Cd):Ob->Ob
 | .run [] s v=>.run cs s v
 | .call [] f x v=>.call cs f x v
 | o=>o
theorem Ob.gd_ok (cs:List Cd) {o:Ob} (h:o.ok P T D):(o.gd cs).ok P T D:=by
 cases o with
 | run c s v=>cases c with
  | nil=>exact λ_=>h rfl
  | cons _ _=>exact h
 | call c f x v=>cases c with
  | nil=>exact λ_=>h rfl
  | cons _ _=>exact h
theorem oGs (cs:List Cd) {l1:List Ob} (h:Obs P T D l1) (l:Obs P T D obs):Obs P T D (l1.map (Ob.gd cs)++obs):=by
 induction l1 with
 | nil=>exact l
 | cons o r ih=>exact ⟨Ob.gd_ok cs h.1,ih h.2⟩
section
theorem oI (t:TypeId) {i:Int} (h:Arr w sz f ad n cap l) (b:getI l i=some u) (k:Obs P T D obs) (ht:T2 P t sz=true:=by kernel_rfl):Obs P T D (.run [] (Instr.indexAt t (.slice ad n cap) (.int .i64 i)) (.pointer (some (Cu ad i sz)))::obs):=Lq (Zz h ht λ_=>b) k
theorem oE (t j:Nat) {i:Int} (b:∀x,(f x).length=sz) (h:∀w',D w'->Arr w' sz f ad n cap l) (c:getI l i=some u) (hj:(f u)[j]? = some v) (k:Obs P T D obs) (ht:T6 P t=true:=by kernel_rfl) :
  Obs P T D (.run [] (Instr.loadAt t (.pointer (some ((Cu ad i sz).add j)))) v::obs):=Lq (A2z j b h ht (λ_=>c) hj) k
theorem oG (t j m:Nat) {i:Int} (b:∀x,(f x).length=sz) (h:∀w',D w'->Arr w' sz f ad n cap l) (c:getI l i=some u) (k:Obs P T D obs) (d:(((f u).drop j).take m).length=m:=by kernel_rfl) (ht:Sp P t=some m:=by kernel_rfl) :
  Obs P T D (.run [] (Instr.loadAt t (.pointer (some ((Cu ad i sz).add j)))) (.agg (((f u).drop j).take m).toArray)::obs):=Lq (B3y j b h ht (λ_=>c) ⟨d,rfl⟩) k
end
end
section
variable {M M':FM}
theorem qC {l rs:List Nat} (n:Nat) (nw:FM) (hF:Fr N ds M a) (d:Obs P (λa b=>b=a) D obs) (next:∀a',Fr N ds M' a'->WRun P r ops D eff K rest a' w) [Spt n l rs rest] [Pre nw M M'] (f:l=rs++rest:=by rfl) (c:B5 ops N=true:=by kernel_rfl) (e:rs.all (λi=>!eff.contains i)=true:=by kernel_rfl) (h:EndsL P ops rs M M' obs:=by exact ⟨by kernel_rfl⟩):WRun P r ops D eff K l a w :=
 f▸B5i rs M' hF c e d h next
theorem rC {l rs:List Nat} (n:Nat) (M':FM) (hF:Fr N ds M a) (d:Obs P (λa b=>b=a) D obs) (next:∀a',Fr N ds M' a'->WRun P r ops D eff K rest a' w) [Spt n l rs rest] (f:l=rs++rest:=by rfl) (c:B5 ops N=true:=by kernel_rfl) (e:rs.all (λi=>!eff.contains i)=true:=by kernel_rfl) (h:EndsL P ops rs M M' obs:=by exact ⟨by kernel_rfl⟩):WRun P r ops D eff K l a w :=
 f▸B5i rs M' hF c e d h next
end
section
variable {f:FuncId} {c:Code}
class Arg (i:Nat) (l:List Value) (M:outParam FM):Prop
instance {i:Nat}:Arg i [] []:=⟨⟩
instance {i:Nat} {x:Value} {l:List Value} {M:FM} [Arg (i+1) l M]:Arg i (x::l) ((i,x)::M):=⟨⟩
theorem feW (d:P.funcs[f]? = some fn) (N:Nat) (M:FM) (g:St w0 H w) (h:∀a w1,Fr N [] M a->St w0 H w1->WP P none c (bodyPost P fn R) a w1) (hb:fn.body=some c:=by rfl) (i:fn.ntmps=N:=by rfl) (b:Nat.ble args.size N=true:=by rfl)
  (j:M.map (λp=>(args++Array.replicate (N-args.size) undef).getD p.1 undef)=M.map Prod.snd:=by kernel_rfl):Calls P f args w R :=
 A7g d hb N M i b j λa w1 e hF=>h a w1 hF (g.cast e)
end
section
variable {M:FM}
theorem A8 {c:Nat} {x y:Code} {t:Bool} {u v z:β} (hF:Fr N ds M a) (h:(bif t then u else v)=z) (ht:t=true->u=z->WP P r x Q a w) (d:t=false->v=z->WP P r y Q a w) (e:lookM M c=some (.bool t):=by rfl):WP P r (.cond (.tmp c) x y) Q a w :=
 B4w hF e (λb=>ht b (D3 h b)) (λb=>d b (D2 h b))
theorem wK (h:K a w):WP P r .skip (Exit.then K Q) a w:=wpIn_skip (A2 h)
theorem Frz.ext.t {ξ:Frz} (h:μ.ext n ν) (k:ν.ext n ξ):μ.ext n ξ:=Frz.ext_trans h k
theorem Frz.le.t {ξ:Frz} (h:μ.le ν) (k:ν.le ξ):μ.le ξ:=Frz.le_trans h k
end
class Spl (l:List Value) (i:Nat) (us:List Value) (l':outParam (List Value)):Prop
instance {l:List Value}:Spl l 0 [] l:=⟨⟩
instance {x u:Value} {l us l':List Value} [Spl l 0 us l']:Spl (x::l) 0 (u::us) (u::l'):=⟨⟩
instance {x:Value} {l us l':List Value} {i:Nat} [Spl l i us l']:Spl (x::l) (i+1) us (x::l'):=⟨⟩
section
variable {M:FM}
theorem qm (t i off:Nat) (us:List Value) {cs cs':List Value} (hF:Fr N ds M a) (j:St w0 H w) (hi:H[i]? = some (blk b tt cs.toArray)) (next:∀w' a',Fr N ds M a'->St w0 (H.set i (blk b tt cs'.toArray)) w'->K a' w') [Spl cs off us cs'] (c:B5 ops N=true:=by kernel_rfl)
  (hs:StoreAt ops k M t (.pointer (some ⟨b,off,none⟩)) (.agg us.toArray):=by exact ⟨by kernel_rfl⟩) (f:pureSem P (sizeOf t)=some (Value.agg us.toArray).cells.size:=by kernel_rfl) (d:(Value.agg us.toArray).cells.toList.all Value.oneCell'=true:=by kernel_rfl) (e:Nat.ble (off+(Value.agg us.toArray).cells.size) cs.toArray.size=true:=by kernel_rfl) (g:A09 cs.toArray off (Value.agg us.toArray).cells.toList=cs'.toArray:=by kernel_rfl)
  (l:NextM ops k M undef M:=by exact ⟨by kernel_rfl⟩):SK P r ops k K a w:=H7 M i off (.agg us.toArray) cs'.toArray hF j hi c hs f d e g l next
theorem qw (t i:Nat) (cs':Array Value) (hF:Fr N ds M a) (j:St w0 H w) (hi:H[i]? = some (blk b tt cs)) (next:∀w' a',Fr N ds M a'->St w0 (H.set i (blk b tt cs')) w'->K a' w') (c:B5 ops N=true:=by kernel_rfl)
  (hs:StoreAt ops k M t (.pointer (some ⟨b,0,none⟩)) (.agg cs'):=by exact ⟨by kernel_rfl⟩) (f:pureSem P (sizeOf t)=some (Value.agg cs').cells.size:=by kernel_rfl) (d:(Value.agg cs').cells.toList.all Value.oneCell'=true:=by kernel_rfl) (e:Nat.ble (0+(Value.agg cs').cells.size) cs.size=true:=by kernel_rfl) (g:A09 cs 0 (Value.agg cs').cells.toList=cs':=by kernel_rfl)
  (l:NextM ops k M undef M:=by exact ⟨by kernel_rfl⟩):SK P r ops k K a w:=H7 M i 0 (.agg cs') cs' hF j hi c hs f d e g l next
theorem qBa {M':Nat->FM} (t:TypeId) (cs:Array Value) (nw:Nat->FM) (hF:Fr N ds M a) (d:St w0 H w) (next:∀b w' a',Fr N ds (M' b) a'->St w0 (blk b t cs::H) w'->K a' w') [∀b,Pre (nw b) M (M' b)] (c:B5 ops N=true:=by kernel_rfl) (hs:EffAt ops k M (Instr.box t (.agg cs)):=by exact ⟨by kernel_rfl⟩)
  (e:∀b,NextM ops k M (.pointer (some ⟨b,0,none⟩)) (M' b):=by exact λ_=>⟨by kernel_rfl⟩):SK P r ops k K a w:=B4s M' (.agg cs) cs hF d c hs rfl e next
theorem rA (t:TypeId) (cs:Array Value) (M':Nat->FM) (hF:Fr N ds M a) (d:St w0 H w) (next:∀b w' a',Fr N ds (M' b) a'->St w0 (blk b t cs::H) w'->K a' w') (c:B5 ops N=true:=by kernel_rfl) (hs:EffAt ops k M (Instr.alloc t true (.tuple #[])):=by exact ⟨by kernel_rfl⟩)
  (e:((P.info? t).bind (·.zero)).map Value.cells=some cs:=by kernel_rfl) (f:∀b,NextM ops k M (.pointer (some ⟨b,0,none⟩)) (M' b):=by exact λ_=>⟨by kernel_rfl⟩):SK P r ops k K a w:=A8h M' cs hF d c hs e f next
variable {e:Nat}
def B3t (f:α->List Value) (l:List α):Array (Nat×Value):=(l.zipIdx.map λp=>(p.2,match f p.1 with|[v]=>v|us=>.agg us.toArray)).toArray
theorem qL (e t len:Nat) (l:List α) (nw:Nat->FM) {M':Nat->FM} (d:∀x,(f x).length=sz) (hF:Fr N ds M a) (g:St w0 H w) (next:∀b w' a',Fr N ds (M' b) a'->St w0 (arr e sz f (some ⟨b,0,none⟩) l.length len l::H) w'->K a' w') [∀b,Pre (nw b) M (M' b)] (c:B5 ops N=true:=by kernel_rfl)
  (hs:EffAt ops k M (Instr.buildSlice t len (B3t f l)):=by exact ⟨by kernel_rfl⟩) (hb:R5 P t len (B3t f l)=some (e,(l.flatMap f).toArray):=by kernel_rfl) (i:l.length=len:=by rfl) (hn:Nat.ble len 16777216=true:=by kernel_rfl) (j:∀b,NextM ops k M (.slice (some ⟨b,0,none⟩) len len) (M' b):=by exact λ_=>⟨by kernel_rfl⟩):SK P r ops k K a w :=
 A9n M' (B3t f l) _ l hF g c hs hb d i rfl hn j next
theorem qP (t ty i:Nat) (nw:Option Addr->Nat->FM) {M':Option Addr->Nat->FM} {scap:Nat} (hF:Fr N ds M a) (j:St w0 H w) (b:Arr w sz f sad l'.length scap l') (d:apd bytes l l'=some l3) (hi:H[i]? = some (arr e sz f ad l.length cap l))
  (next:∀ad2 cap2 w' a',Fr N ds (M' ad2 cap2) a'->St w0 (H.set i (arr e sz f ad2 l3.length cap2 l3)) w'->K a' w') [∀ad2 cap2,Pre (nw ad2 cap2) M (M' ad2 cap2)] (m:∀x∈l',(f x).all Value.oneCell'=true:=by exact λ_ _=>rfl) (c:B5 ops N=true:=by kernel_rfl)
  (hs:EffAt ops k M (Builtin.append_ #[t,t] ty #[.slice ad l.length cap,.slice sad l'.length scap]):=by exact ⟨by kernel_rfl⟩) (g:R1 P t e sz bytes=true:=by kernel_rfl) (n:∀ad2 cap2,NextM ops k M (.slice ad2 l3.length cap2) (M' ad2 cap2):=by exact λ_ _=>⟨by kernel_rfl⟩):SK P r ops k K a w :=
 B4o M' i hF j hi c hs g b m d n next
end
section
variable {M M':FM}
theorem qk (k':Nat) (nw:FM) (hF:Fr N ds M a) (next:∀a',Fr N ds M' a'->WI P r ops Q k' a' w) [Pre nw M M'] (b:B5 ops N=true:=by kernel_rfl) (hs:SkipAt ops k M:=by exact ⟨by kernel_rfl⟩) (c:NextM ops k M undef M':=by exact ⟨by kernel_rfl⟩) (d:k+1=k':=by rfl):WI P r ops Q k a w:=B0j k' M' hF b hs c d next
theorem rk (k':Nat) (M':FM) (hF:Fr N ds M a) (next:∀a',Fr N ds M' a'->WI P r ops Q k' a' w) (b:B5 ops N=true:=by kernel_rfl) (hs:SkipAt ops k M:=by exact ⟨by kernel_rfl⟩) (c:NextM ops k M undef M':=by exact ⟨by kernel_rfl⟩) (d:k+1=k':=by rfl):WI P r ops Q k a w:=B0j k' M' hF b hs c d next
end
def Mu (s:ByteArray) (lo hi:Int):Option ByteArray:=if 0<=lo/\lo<=hi/\hi<=s.size then some (s.extract lo.toNat hi.toNat) else none
def Sq (a b:ByteArray):Option ByteArray:=if a.size+b.size<=9223372036854775807 then some (a++b) else none
theorem A2m {s r:ByteArray} (h:Mu s lo hi=some r):∃a b:Nat,lo=a/\hi=b/\a<=b/\b<=s.size/\r=s.extract a b:=by
 unfold Mu at h
 split at h
 ·rename_i c
  cases h
  exact ⟨lo.toNat,hi.toNat,by omega,by omega,by omega,by omega,rfl⟩
 ·cases h
theorem A77 {a b r:ByteArray} (h:Sq a b=some r):r=a++b/\a.size+b.size<=9223372036854775807:=by
 unfold Sq at h
 split at h
 ·cases h;exact ⟨rfl,by assumption⟩
 ·cases h
section
variable {cs:List Cd} {t:Nat} {s r:ByteArray}
theorem A45 {l h:Option Value} {a:Nat} (ht:A0j P t=true) (hb:∀w,(Instr.sliceBounds false s.size s.size l h none).run P w=.ok (a,b,s.size) w) (w:World) :
  (Instr.sliceAt t (.string s) l h none).run P w=.ok (.string (s.extract a b)) w:=by
 have c:=V8 ht;simp [Instr.sliceAt,Instr.slice,run_underlying c,hb w]
theorem Z7 (ht:A0j P t=true) (c:Bi cs=true->Mu s lo ((s.size:Nat):Int)=some r):Ob.ok P T D (.run cs (Instr.sliceAt t (.string s) (some (.int .i64 lo)) none none) (.string r)):=by
 intro d w _;obtain ⟨a,b,rfl,hb,e,f,rfl⟩:=A2m (c d);obtain rfl:b=s.size:=by omega
 exact A45 ht (λw=>by simp [Instr.sliceBounds,Instr.sliceBound,asIntOf,e]) w
theorem E2 (ht:A0j P t=true) (c:Bi cs=true->Mu s 0 hi=some r):Ob.ok P T D (.run cs (Instr.sliceAt t (.string s) none (some (.int .i64 hi)) none) (.string r)):=by
 intro d w _;obtain ⟨a,b,f,rfl,g,e,rfl⟩:=A2m (c d);obtain rfl:a=0:=by omega
 exact A45 ht (λw=>by simp [Instr.sliceBounds,Instr.sliceBound,asIntOf,e]) w
theorem L8 {a b:ByteArray} (c:Bi cs=true->Sq a b=some r):Ob.ok P T D (.run cs (binOp .add t (.string a) (.string b)) (.string r)):=by
 intro d w _;obtain ⟨rfl,h⟩:=A77 (c d);have e:¬(((a.size+b.size:Nat):Int)>IntKind.i64.max):=by
  have:IntKind.i64.max=9223372036854775807:=by rfl
  omega
 have f:∀w,(Op.stringOp .add a b).run P w=.ok (.string (a++b)) w:=λw=>by
  unfold Op.stringOp;simp only [if_neg e];rfl
 simp [binOp,f]
end
section
variable {cs:List Cd} {f:α->Value} {x:So α n} {l2:List α}
theorem A1c (f:α->Value):∀(l:List α),(l.flatMap λu=>[f u])=l.map f
 | []=>rfl
 | x::l=>by rw [List.flatMap_cons,A1c f l];rfl
theorem Arr.ofVec (hm:n<=9223372036854775807) (h:Blk w b tt (vF f x).toArray):Arr w 1 (λu=>[f u]) (some ⟨b,0,none⟩) n n x.1:=by
 have hn:=x.2;have c:b<w.heap.size:=by
  unfold Blk at h;exact (Array.getElem?_eq_some_iff.1 h).1
 refine ⟨hn,_,_,rfl,?_,by omega,by unfold maxLen;omega,λd=>?_⟩
 ·rw [A1c,List.length_map,hn,Nat.mul_one]
 ·refine ⟨⟨b,0,none⟩,rfl,c,λj u e=>?_⟩;rw [A1c] at e;have:=Blk.cell1 (j:=j) (v:=u) h (by rw [List.getElem?_toArray];exact e);rw [Addr.add_lit,Nat.zero_add];exact this
theorem Arr.cutV (hm:n<=9223372036854775807) (h:Blk w b tt (vF f x).toArray) (c:Wb x.1 lo hi=some l2):Arr w 1 (λu=>[f u]) (U4 (some ⟨b,0,none⟩) n lo.toNat 1) l2.length (n-lo.toNat) l2:=(Arr.ofVec hm h).cutD (λ_=>rfl) c
theorem A9u {t:Nat} (ht:A6c P t n=true) (g:Bi cs=true->Wb x.1 lo hi=some l2) :
  Ob.ok P T D (.run cs (Instr.sliceAt t (.pointer (some ⟨b,0,none⟩)) (some (.int .i64 lo)) (some (.int .i64 hi)) none) (.slice (U4 (some ⟨b,0,none⟩) n lo.toNat 1) l2.length (n-lo.toNat))):=by
 intro i w _;obtain ⟨e,j,k⟩:=A14 ht;obtain ⟨a,c,rfl,rfl,l,d,rfl,m⟩:=Zq (g i);rw [x.2] at d;rw [m];have hb:∀w,(Instr.sliceBounds false n n (some (.int .i64 (a:Int))) (some (.int .i64 (c:Int))) none).run P w=.ok (a,c,n) w:=λw=>by simp [Instr.sliceBounds,Instr.sliceBound,asIntOf,l,d]
 have hs:∀w,(Instr.sureAddr (.pointer (some ⟨b,0,none⟩))).run P w=.ok (⟨b,0,none⟩:Addr) w:=λw=>by simp [Instr.sureAddr]
 simp [Instr.sliceAt,run_underlying j,hs w,hb w,k w];unfold U4
 by_cases f:n=a
 ·simp [f]
 ·simp [f]
end
def SlM {α:Type} (sz:Nat) (f:α->List Value) (μ:Frz) (v:Value) (l:List α):Prop:=∃ad cap,v=.slice ad l.length cap/\ArrM μ sz f ad cap l
def SlQ {α:Type} (sz:Nat) (R:Rel α) (μ:Frz) (v:Value) (l:List α):Prop:=∃ad cap css,v=.slice ad l.length cap/\ArrQ μ sz R ad cap css l
def MapS {κ ν:Type} (S:Value->ν->Prop) (Bv:List (κ×Value)) (B:List (κ×ν)):Prop:=All2 (λ(p:κ×Value) (q:κ×ν)=>p.1=q.1/\S p.2 q.2) Bv B
def MapM {κ α:Type} (sz:Nat) (f:α->List Value) (μ:Frz) (Bv:List (κ×Value)) (B:List (κ×List α)):Prop:=MapS (SlM sz f μ) Bv B
def MapQ {κ α:Type} (sz:Nat) (R:Rel α) (μ:Frz) (Bv:List (κ×Value)) (B:List (κ×List α)):Prop:=MapS (SlQ sz R μ) Bv B
section
variable {ν:Type} [DecidableEq κ] {S S2:Value->ν->Prop} {Bv:List (κ×Value)} {B:List (κ×ν)} {x:κ} {y:ν} {μ':Frz}
theorem MapS.nil:MapS S ([]:List (κ×Value)) ([]:List (κ×ν)):=All2.nil
theorem MapS.imp (h:MapS S Bv B) (hs:∀v y,S v y->S2 v y):MapS S2 Bv B:=by
 unfold MapS at *
 induction h with
 | nil=>exact .nil
 | cons h _ ih=>exact .cons ⟨h.1,hs _ _ h.2⟩ ih
theorem MapS.lk (h:MapS S Bv B) (x:κ):(lkM Bv x=none/\lkM B x=none)\/∃v y,lkM Bv x=some v/\lkM B x=some y/\S v y:=by
 unfold MapS at h
 induction h with
 | nil=>exact .inl ⟨rfl,rfl⟩
 | cons h d ih =>
  rename_i p q bv b
  obtain ⟨e,hs⟩:=h;unfold lkM
  by_cases c:x=p.1
  ·rw [if_pos c,if_pos (by rw [←e];exact c)];exact .inr ⟨_,_,rfl,rfl,hs⟩
  ·rw [if_neg c,if_neg (by rw [←e];exact c)];exact ih
theorem MapS.up (h:MapS S Bv B) (hs:S v y):MapS S (upM Bv x v) (upM B x y):=by
 unfold MapS at *
 induction h with
 | nil=>exact .cons ⟨rfl,hs⟩ .nil
 | cons h d ih =>
  rename_i p q bv b
  obtain ⟨e,f⟩:=h;unfold upM
  by_cases c:x=p.1
  ·rw [if_pos c,if_pos (by rw [←e];exact c)];exact .cons ⟨rfl,hs⟩ d
  ·rw [if_neg c,if_neg (by rw [←e];exact c)];exact .cons ⟨e,f⟩ ih
theorem SlM.mono (h:SlM sz f μ v l) (b:μ.le μ'):SlM sz f μ' v l:=by
 obtain ⟨ad,cap,rfl,h⟩:=h;exact ⟨ad,cap,rfl,h.mono b⟩
theorem SlQ.mono {R:Rel α} (h:SlQ sz R μ v l) (hR:R.Mono) (b:μ.le μ'):SlQ sz R μ' v l:=by
 obtain ⟨ad,cap,css,rfl,h⟩:=h;exact ⟨ad,cap,css,rfl,h.mono hR b⟩
theorem MapM.mono {B:List (κ×List α)} (h:MapM sz f μ Bv B) (b:μ.le μ'):MapM sz f μ' Bv B:=MapS.imp h λ_ _ h=>h.mono b
theorem MapQ.mono {R:Rel α} {B:List (κ×List α)} (h:MapQ sz R μ Bv B) (hR:R.Mono) (b:μ.le μ'):MapQ sz R μ' Bv B:=MapS.imp h λ_ _ h=>h.mono hR b
end
section
variable {ν:Type} [DecidableEq κ] {e t:TypeId} {vf:ν->Value} {B:List (κ×ν)} {x:κ} {v d:ν}
theorem A7r (M':List (Nat×Value)) (i:Nat) (x:κ) (d:ν) (g:KeyOk P kt kf) (hF:Fr N ds M a) (s:St w0 H w) (hi:H[i]? = some (A7s kf vf m B)) (f:B5 ops N=true) (hs:EffM ops k M (Instr.lookup t (.map (some m)) (kf x) true)) (ht:A2u P t kt e=true)
  (c:(P.info? e).bind (·.zero)=some (vf d)) (y:NextM ops k M (.tuple #[vf ((lkM B x).getD d),.bool (lkM B x).isSome]) M') (next:∀a',Fr N ds M' a'->K a' w):SK P r ops k K a w:=by
 obtain ⟨es,clock,z,h2,h3⟩:=s.res hi;refine B2s hF f hs ?_ y next
 obtain ⟨q,q1,q2,q3,q4⟩:=A6k g x h2;have l:=q1 w;have n:=Ba _ _ (g.ck es.isEmpty x) w;have o:=MapKept.run_getObj_map (P:=P) z
 cases b:P.info? e with
 | none=>rw [b] at c;simp at c
 | some inf =>
  rw [b] at c;simp at c
  cases q with
  | some p =>
   obtain ⟨v,e1,e2⟩:=q3 p rfl;obtain ⟨j,u⟩:=p;have e2:u=vf v:=e2;subst e2;rw [e1];simp [Instr.lookup,run_underlying (Vc ht),o,n,l,zeroValue,typeInfo,b,c]
  | none =>
   have e1:=q4 rfl;simp [Instr.lookup,run_underlying (Vc ht),o,n,l,e1,zeroValue,typeInfo,b,c]
theorem A4g (M':Value->List (Nat×Value)) (i:Nat) (x:κ) {S:Value->List α->Prop} {Bv:List (κ×Value)} {B:List (κ×List α)} (g:KeyOk P kt kf) (j:MapS S Bv B) (h0:S (.slice none 0 0) []) (hF:Fr N ds M a) (l:St w0 H w) (hi:H[i]? = some (A7s kf (λv=>v) m Bv)) (b:B5 ops N=true)
  (hs:EffM ops k M (Instr.lookup t (.map (some m)) (kf x) true)) (ht:A2u P t kt e=true) (n:(P.info? e).bind (·.zero)=some (.slice none 0 0)) (o:∀v,NextM ops k M (.tuple #[v,.bool (lkM B x).isSome]) (M' v))
  (next:∀v a',Fr N ds (M' v) a'->S v ((lkM B x).getD [])->K a' w):SK P r ops k K a w:=by
 have p:=j.lk x;have key:(lkM Bv x).isSome=(lkM B x).isSome/\S ((lkM Bv x).getD (.slice none 0 0)) ((lkM B x).getD []):=by
  rcases p with ⟨c,d⟩|⟨v,y,c,d,q⟩
  ·rw [c,d];exact ⟨rfl,h0⟩
  ·rw [c,d];exact ⟨rfl,q⟩
 refine A7r (e:=e) (M' ((lkM Bv x).getD (.slice none 0 0))) i x (.slice none 0 0) g hF l hi b hs ht n ?_ λa' f=>next _ a' f key.2
 rw [key.1];exact o _
end
def B1d {ε ρ:Type} (res:Except ε ρ) (A:ρ->Prop) (B:ε->Prop):Prop:=(∃r,res=.ok r/\A r)\/∃e,res=.error e/\B e
def obSem (ρ:Operand->Value):Op->Option (Sem Value)
 | .binOp .shr t x y _=>some (binOp .shr t (ρ x) (ρ y))
 | o=>Z2 ρ o
theorem A80 {s:Sem Value} (h:obSem ρ o.op=some s) (c:s.run P w=.ok v w):(execOp ρ o).run P w=.ok (.value v) w:=by
 unfold obSem at h
 split at h
 ·rename_i t x y z b
  unfold execOp;rw [b]
  cases h
  simp [c,eqGuard]
 ·exact (A0i h c).2
structure ObAt (ops:Array Oper) (k:Nat) (M:List (Nat×Value)) (s:Sem Value):Prop where
 eq:((plainAt ops k M).bind λo=>obSem (rhoE (ofM M)) o.op)=some s
section
variable {s:Sem Value}
theorem obK (M':List (Nat×Value)) (hF:Fr N ds M a) (b:B5 ops N=true) (hs:ObAt ops k M s) (ho:Ob.ok P T (λw'=>w'=w) (.run [] s v)) (d:NextM ops k M v M') (next:∀a',Fr N ds M' a'->K a' w):SK P r ops k K a w:=by
 have hs:=hs.eq
 cases c:plainAt ops k M with
 | none=>rw [c] at hs;simp at hs
 | some o =>
  rw [c] at hs;exact B1x hF b c (A80 hs (ho rfl w rfl)) d next
end
section
variable {cs:List Cd} {f:α->Value} {x:So α n} {i:Int}
theorem A9y {e:TypeId} (hn:T6 P e=true) {x:So α n} {j:Nat} (h:x.1[j]? = some u):pureSem P (part e (vF f x).toArray (j*1))=some (f u):=by
 have hj:(vF f x).toArray[j*1]? = some (f u):=by
  rw [Nat.mul_one,List.getElem?_toArray];unfold vF;rw [List.getElem?_map,h];rfl
 have i:∀(s:Sem Bool),(match pureSem P s with|some b=>!b|none=>false)=true->pureSem P s=some false:=by
  intro s hs
  cases g:pureSem P s with
  | none=>rw [g] at hs;cases hs
  | some b=>rw [g] at hs;cases b<;>simp_all
 have l:=i _ hn;have d:∀{α β:Type} (s:Sem α) (k:α->Sem β) (a:α),pureSem P s=some a->pureSem P (s >>= k)=pureSem P (k a):=by
  intro α β s k a hs
  induction s with
  | pure c=>simp [pureSem] at hs;subst hs;rfl
  | program c ih=>simp only [pureSem] at hs;exact ih P hs
  | mark m c ih=>simp only [pureSem] at hs;exact ih hs
  | _=>simp [pureSem] at hs
 unfold part;rw [d _ _ _ l];simp only [Bool.false_eq_true,if_false,hj];rfl
def B2p (P:Program) (t:Nat):Bool:=match P.underlying t with
 | some (.array _ e)=>T6 P e
 | _=>false
theorem Z8 {t:Nat} (ht:A6c P t n=true) (hn:B2p P t=true) (d:Bi cs=true->A3c x i=some u):Ob.ok P T D (.run cs (Instr.index t (.agg (vF f x).toArray) (.int .i64 i)) (f u)):=by
 intro g w _;obtain ⟨e,b,j⟩:=A14 ht;obtain ⟨h0,hi,k⟩:=A7h (d g);unfold B2p at hn;rw [b] at hn;have c:=Ba _ _ (A9y (f:=f) hn k) w;rw [Nat.mul_one] at c;simp [Instr.index,asIntOf,run_underlying b,h0,hi,j w,c]
end
def TabM (P:Program) (name:String) (k:IntKind) (zs:List Int) (μ:Frz):Prop:=∀w,FrzAt μ w->Lib.TabIs P w name k zs
theorem TabM.mono {name:String} {k:IntKind} {zs:List Int} (h:TabM P name k zs μ) (b:μ.le ν):TabM P name k zs ν:=λw c=>h w (c.low b)
theorem TabM.of_mem {name:String} {k:IntKind} {zs:List Int} (h:Lib.TabIs P w name k zs):TabM P name k zs (D9 w):=λw' c=>by
 unfold Lib.TabIs World.var? at *
 cases b:P.globalNamed name with
 | none=>rw [b] at h;simp at h
 | some g =>
  rw [b] at h;simp only [Option.bind_some] at h ⊢
  cases hb:w.heap[g]? with
  | none=>rw [hb] at h;simp at h
  | some o =>
   have:w'.heap[g]? = some o:=c g o (by unfold D9;exact hb);rw [hb] at h;rw [this];exact h
theorem B4i (c:∀em x,pureSem P (Instr.checkKey em 10000 kt (Value.string x))=some ()) (b:pureSem P (underlying kt)=some .string):KeyOk P kt Value.string:=by
 refine KeyNow.ok ⟨c,λx=>?_,λx y=>?_,by rw [b];rfl⟩
 ·unfold Instr.sameBits;exact (MapKept.bytes_beq x x).2 rfl
 ·rw [b];show some (x==y)=some (decide (x=y))
  congr 1
  rw [Bool.eq_iff_iff,MapKept.bytes_beq,decide_eq_true_iff]
def Sn (b:Nat) (u:Bool):Option Addr:=bif u then some ⟨b,0,none⟩ else none
section
variable (w:World)
theorem A23 {e:TypeId} (b:P.cellsOf e=1) (count off n:Nat) (hn:off+n<=count):liesAt P P.depth e count off e n=true:=by
 have hd:P.depth=(2*(P.types.size+Made.depth)+1)+1:=rfl;rw [hd];simp only [liesAt,Bool.or_eq_true];left;rw [hd];simp [rowAt,b,hn,sameLayout,Nat.mod_one]
theorem Wt:∀(l:List Int) (a:Addr) (acc:ByteArray),(∀j x,l[j]? = some x->w.cell? (a.add j)=some (.int .u8 x)) ->
  (loadBytes a acc l.length).run P w=.ok ⟨acc.data++(bst l).data⟩ w
 | [],a,acc,_=>by simp [loadBytes,bst]
 | x::l,a,acc,h=>by
  have h0:w.cell? a=some (.int .u8 x):=by
   have:=h 0 x rfl
   simpa [Addr.add] using this
  have ih:=Wt l (a.add 1) (acc.push (UInt8.ofNat x.toNat)) (λj y b=>by
   have:=h (j+1) y (by simpa using b);have e:(a.add 1).add j=a.add (j+1):=by
    unfold Addr.add
    by_cases hj:j=0
    ·subst hj;simp
    ·simp [hj];omega
   rw [e];exact this)
  have c:x.toNat.toUInt8=UInt8.ofNat x.toNat:=rfl;simp only [List.length_cons,loadBytes,Sem.run_bind,run_load,h0,Result.andThen,c];rw [ih]
  congr 1
  apply ByteArray.ext;simp [ByteArray.push,bst]
theorem Zf (pt it ty e:TypeId) (q:P.underlying pt=some (.pointer e)) (p:P.cellsOf e=1) (g off cells:Nat) (o:w.shape? g=some (e,cells)) (l:List Int) (h0:l≠[]) (hn:off+l.length<=cells) (r:l.length<=9223372036854775807)
  (b:∀j x,l[j]? = some x->w.cell? ((⟨g,off,none⟩:Addr).add j)=some (.int .u8 x)) :
  (Builtin.unsafeString_ #[pt,it] ty #[.pointer (some ⟨g,off,none⟩),.int .i64 l.length]).run P w=.ok (.string (bst l)) (w.freeze ⟨g,off,none⟩ l.length):=by
 have t:l.length≠0:=by simpa using h0
 have d:=Wt (P:=P) w l ⟨g,off,none⟩ .empty b;have c:=A23 (P:=P) p (cells/P.cellsOf e) off l.length (by rw [p];simpa using hn);have f:¬(9223372036854775807:Int)<(l.length:Int):=by omega
 have i:Builtin.unsafeString_ #[pt,it] ty #[.pointer (some ⟨g,off,none⟩),.int .i64 l.length] =
   (do
    let n ←asInt (.int .i64 l.length)
    if n<0 then runtimePanic (.error "unsafe.String: len out of range")
    if n>IntKind.i64.max then unsupported (.unsafePointer "String: a length above the largest int")
    if n=0 then pure (.string .empty)
    else if ←variablesAt ⟨g,off,none⟩ (←elemOf pt) n.toNat then do
     let s ←loadBytes ⟨g,off,none⟩ .empty n.toNat
     freeze ⟨g,off,none⟩ n.toNat
     pure (.string s)
    else unsupported (.unsafePointer "String: not so many bytes at ptr")):=rfl
 rw [i];have k:IntKind.i64.max=9223372036854775807:=rfl;have m:¬(l.length:Int)<0:=by omega
 have hb:(⟨ByteArray.empty.data++(bst l).data⟩:ByteArray)=bst l:=by apply ByteArray.ext;simp
 rw [hb] at d;simp [asInt,asIntOf,k,f,m,t,variablesAt,o,elemOf,run_underlying q,c,d]
end
theorem St.pk (h:St w0 H w) (is:List Nat) (hn:is.Nodup:=by decide):St w0 (is.filterMap λi=>H[i]?) w:=St.pick is hn h
theorem St.fz (h:St w0 H w) (b:Ar w0 μ) (i:Nat) (hi:H[i]? = some (Jv w0.heap.size μ):=by exact rfl):FrzAt μ w:=h.frz hi b
theorem St.fm (h:St w0 H w) (b:Ar w0 μ) (i:Nat) (hi:H[i]? = some (Jv w0.heap.size μ):=by exact rfl):μ.le (D9 w):=h.frz hi b
theorem St.fd {w2:World} (h:St w0 H w) (hd:Ext w w2) (b:Ar w0 μ) (i:Nat) (hi:H[i]? = some (Jv w0.heap.size μ):=by exact rfl):μ.le (D9 w2):=(h.later hd).frz hi b
theorem St.fa {w2:World} (h:St w0 H w) (hd:w2=w) (b:Ar w0 μ) (i:Nat) (hi:H[i]? = some (Jv w0.heap.size μ):=by exact rfl):FrzAt μ w2:=(h.at_ hd).frz hi b
theorem C8 (i:Nat) (hF:Fr N [] M a) (c:lookM M i=some v) (hR:R (.returned v) w) (b:fn.results=#[.tmp i]:=by rfl):bodyPost P fn R .ret a w:=B2 [.tmp i] [v] hF b ⟨c,trivial⟩ hR
theorem WT.n1 (e:Nat) (h:SK P r ops e (λa' w'=>D w'/\WT P r ops D m eff K n (done++[e]) a' w') a w) (b:C0 ops m eff done=[]:=by kernel_rfl) (c:Vx ops eff done=[e]:=by kernel_rfl):WT P r ops D m eff K (n+1) done a w:=WT.s [] [e] b c (all_cons h Bu)
theorem WT.n2 (e f:Nat) (h:SK P r ops e (λa' w'=>D w'/\WT P r ops D m eff K n (done++[e]) a' w') a w) (k:SK P r ops f (λa' w'=>D w'/\WT P r ops D m eff K n (done++[f]) a' w') a w) (b:C0 ops m eff done=[]:=by kernel_rfl) (c:Vx ops eff done=[e,f]:=by kernel_rfl):WT P r ops D m eff K (n+1) done a w:=WT.s [] [e,f] b c (all_cons h (all_cons k Bu))
theorem WT.n3 (e f g:Nat) (h:SK P r ops e (λa' w'=>D w'/\WT P r ops D m eff K n (done++[e]) a' w') a w) (k:SK P r ops f (λa' w'=>D w'/\WT P r ops D m eff K n (done++[f]) a' w') a w) (l:SK P r ops g (λa' w'=>D w'/\WT P r ops D m eff K n (done++[g]) a' w') a w) (b:C0 ops m eff done=[]:=by kernel_rfl) (c:Vx ops eff done=[e,f,g]:=by kernel_rfl):WT P r ops D m eff K (n+1) done a w:=WT.s [] [e,f,g] b c (all_cons h (all_cons k (all_cons l Bu)))
theorem WT.n0 (h:K a w) (b:C0 ops m eff done=[]:=by kernel_rfl):WT P r ops D m eff K 0 done a w:=WT.z [] b h
class RM {α:Type} (R:Rel α):Prop where m:R.Mono
class Mo (μ ν:Frz) (A:Prop) (B:outParam Prop):Prop where m:μ.le ν->A->B
instance {μ ν:Frz} {α:Type} {sz:Nat} {f:α->List Value} {ad:Option Addr} {cap:Nat} {l:List α}:Mo μ ν (ArrM μ sz f ad cap l) (ArrM ν sz f ad cap l):=⟨λh a=>a.mono h⟩
instance {μ ν:Frz} {α:Type} {sz:Nat} {R:Rel α} [RM R] {ad:Option Addr} {cap:Nat} {css:List (List Value)} {l:List α}:Mo μ ν (ArrQ μ sz R ad cap css l) (ArrQ ν sz R ad cap css l):=⟨λh a=>a.mono RM.m h⟩
instance {μ ν:Frz} {α:Type} {R:Rel α} [RM R] {css:List (List Value)} {l:List α}:Mo μ ν (All2 (R μ) css l) (All2 (R ν) css l):=⟨λh a=>All2.mono RM.m h a⟩
instance {μ ν:Frz} {b t:Nat} {cs:Array Value}:Mo μ ν (BlkM μ b t cs) (BlkM ν b t cs):=⟨λh a=>a.mono h⟩
instance {μ ν:Frz} {α:Type} {T:TypeId} {R:Rel α} [RM R] {pa:Option Addr} {x:Option α}:Mo μ ν (PtM μ T R pa x) (PtM ν T R pa x):=⟨λh a=>a.mono RM.m h⟩
instance {β:Type} {R:Rel β} [RM R] {μ ν:Frz} {hd:List Hd} {css:List (List (List Value))} {L:List (List β)}:Mo μ ν (NestOk (R μ) hd css L) (NestOk (R ν) hd css L):=⟨λh a=>NestOk.mono RM.m h a⟩
instance {κ μ ν:Frz}:Mo μ ν (κ.le μ) (κ.le ν):=⟨λh a=>a.t h⟩
instance {P:Program} {name:String} {k:IntKind} {zs:List Int} {μ ν:Frz}:Mo μ ν (TabM P name k zs μ) (TabM P name k zs ν):=⟨λh a=>a.mono h⟩
instance {μ ν:Frz} {κ α:Type} [DecidableEq κ] {sz:Nat} {R:Rel α} [RM R] {Bv:List (κ×Value)} {B:List (κ×List α)}:Mo μ ν (MapQ sz R μ Bv B) (MapQ sz R ν Bv B):=⟨λh a=>a.mono RM.m h⟩
instance {μ ν:Frz} {κ α:Type} [DecidableEq κ] {sz:Nat} {f:α->List Value} {Bv:List (κ×Value)} {B:List (κ×List α)}:Mo μ ν (MapM sz f μ Bv B) (MapM sz f ν Bv B):=⟨λh a=>a.mono h⟩
theorem mo2 {A A' B B':Prop} (h:μ.le ν) (a:A) (b:B) [i:Mo μ ν A A'] [j:Mo μ ν B B']:A'/\B':=⟨i.m h a,j.m h b⟩
theorem mo3 {A A' B B' C C':Prop} (h:μ.le ν) (a:A) (b:B) (c:C) [i:Mo μ ν A A'] [j:Mo μ ν B B'] [k:Mo μ ν C C']:A'/\B'/\C':=⟨i.m h a,mo2 h b c⟩
theorem mo4 {A A' B B' C C' D D':Prop} (h:μ.le ν) (a:A) (b:B) (c:C) (d:D) [i:Mo μ ν A A'] [j:Mo μ ν B B'] [k:Mo μ ν C C'] [l:Mo μ ν D D']:A'/\B'/\C'/\D':=⟨i.m h a,mo3 h b c d⟩
theorem mo5 {A A' B B' C C' D D' E E':Prop} (h:μ.le ν) (a:A) (b:B) (c:C) (d:D) (e:E) [i:Mo μ ν A A'] [j:Mo μ ν B B'] [k:Mo μ ν C C'] [l:Mo μ ν D D'] [m:Mo μ ν E E']:A'/\B'/\C'/\D'/\E':=⟨i.m h a,mo4 h b c d e⟩
theorem mo6 {A A' B B' C C' D D' E E' G G':Prop} (h:μ.le ν) (a:A) (b:B) (c:C) (d:D) (e:E) (g:G) [i:Mo μ ν A A'] [j:Mo μ ν B B'] [k:Mo μ ν C C'] [l:Mo μ ν D D'] [m:Mo μ ν E E'] [n:Mo μ ν G G']:A'/\B'/\C'/\D'/\E'/\G':=⟨i.m h a,mo5 h b c d e g⟩
theorem oV (t j:Nat) {tt:Nat} {u:Value} (c:BlkM μ b tt cs) (hs:∀w',D w'->FrzAt μ w') (l:Obs P T D obs) (hj:cs[j]? = some u:=by exact rfl) (ht:T6 P t=true:=by kernel_rfl):Obs P T D (.run [] (Instr.loadAt t (.pointer (some ⟨b,j,none⟩))) u::obs):=Lq (ob1 ht λw' hd=>(c.blk (hs w' hd)).cell1 hj) l
theorem oU (t i j:Nat) {u:Value} (hs:∀w',D w'->St w0 H w') (l:Obs P T D obs) (hi:H[i]? = some (blk b tt cs):=by exact rfl) (hj:cs[j]? = some u:=by exact rfl) (ht:T6 P t=true:=by kernel_rfl):Obs P T D (.run [] (Instr.loadAt t (.pointer (some ⟨b,j,none⟩))) u::obs):=oL t i j hs hi hj l ht
theorem oW (t i off n:Nat) (hs:∀w',D w'->St w0 H w') (l:Obs P T D obs) (hi:H[i]? = some (blk b tt cs):=by exact rfl) (ht:Sp P t=some ((cs.toList.drop off).take n).length:=by kernel_rfl) (hn:(cs.toList.drop off).take ((cs.toList.drop off).take n).length=(cs.toList.drop off).take n:=by kernel_rfl):Obs P T D (.run [] (Instr.loadAt t (.pointer (some ⟨b,off,none⟩))) (.agg ((cs.toList.drop off).take n).toArray)::obs):=oN t i off n hs hi l ht hn
theorem wf (h:K a w) (b:Nat.beq k ops.size=true:=by rfl):WI P r ops (Exit.then K Q) k a w:=wfn b h
theorem nS {p:Prop} (h:(none:Option α)=some x):p:=nomatch h
theorem bft (b:Bool):b=true\/b=false:=Bool.eq_false_or_eq_true b
theorem Fr.sb (h:Fr N ds M a) (hs:M'.map (λp=>lookM M p.1)=M'.map (λp=>some p.2):=by kernel_rfl):Fr N ds M' a:=h.sub hs
theorem St.fA (h:St w0 H w) (b:Ar w0 μ) (i:Nat) (hi:H[i]? = some (Jv w0.heap.size μ):=by exact rfl):∀w',w'=w->FrzAt μ w':=λ_ e=>h.fa e b i hi
theorem St.fD (h:St w0 H w) (b:Ar w0 μ) (i:Nat) (hi:H[i]? = some (Jv w0.heap.size μ):=by exact rfl):∀w',Ext w w'->FrzAt μ w':=λ_ e=>h.fd e b i hi
theorem ArrM.a1 (h:ArrM μ sz f ad cap l) (hs:∀w',D w'->FrzAt μ w'):∀w',D w'->Arr w' sz f ad l.length cap l:=λw hd=>h w (hs w hd)
theorem ArrQ.a1 {R:Rel α} {css:List (List Value)} (h:ArrQ μ sz R ad cap css l) (hs:∀w',D w'->FrzAt μ w'):∀w',D w'->Arr w' sz (fN sz) ad l.length cap css:=λw hd=>h.at (hs w hd)
theorem wrX (i:Nat) (hF:Fr N [] M a) (c:St w0 H w) (d:lookM M i=some v:=by rfl) (b:fn.results=#[.tmp i]:=by rfl):bodyPost P fn (λe w'=>e=.returned v/\Ext w0 w') .ret a w:=C8 i hF d ⟨rfl,c.ext⟩ b
theorem Bk {o:Option α} {p:α->Option β} {g:α->β->Option γ} {r:γ} (h:(o.bind λx=>(p x).bind (g x))=some r):∃x,o=some x/\∃y,p x=some y/\g x y=some r:=let ⟨x,a,k⟩:=A6 h;let ⟨y,b,l⟩:=A6 k;⟨x,a,y,b,l⟩
theorem Ja {δ:Type} {o:Option α} {p:α->Option β} {q:α->β->Option γ} {g:α->β->γ->Option δ} {r:δ} (h:(o.bind λx=>(p x).bind λy=>(q x y).bind (g x y))=some r):∃x,o=some x/\∃y,p x=some y/\∃z,q x y=some z/\g x y z=some r:=let ⟨x,a,k⟩:=A6 h;let ⟨y,b,l⟩:=Bk k;⟨x,a,y,b,l⟩
theorem qxs {M M':FM} (n k':Nat) (nw:FM) (hF:Fr N ds M a) (d:St w0 H w) (c:Obs P Ext (Ext w) obs) (next:∀a' w',Fr N ds M' a'->St w0 H w'->WI P r ops Q k' a' w') [Pre nw M M'] (b:B5 ops N=true:=by kernel_rfl) (h:Ends P ops n k M M' obs:=by exact ⟨by kernel_rfl⟩) (e:k+n=k':=by rfl):WI P r ops Q k a w:=qx n k' nw hF c (λa' w' f x=>next a' w' f (d.later x)) b h e
theorem rXs {M:FM} (n k':Nat) (M':FM) (hF:Fr N ds M a) (d:St w0 H w) (c:Obs P Ext (Ext w) obs) (next:∀a' w',Fr N ds M' a'->St w0 H w'->WI P r ops Q k' a' w') (b:B5 ops N=true:=by kernel_rfl) (h:Ends P ops n k M M' obs:=by exact ⟨by kernel_rfl⟩) (e:k+n=k':=by rfl):WI P r ops Q k a w:=rX n k' M' hF c (λa' w' f x=>next a' w' f (d.later x)) b h e
theorem rDs {M:FM} (m:Nat) (M':FM) (hF:Fr N ds M a) (e:St w0 H w) (b:Obs P Ext (Ext w) obs) (next:∀a' w',Fr N ds M' a'->St w0 H w'->WI P r ops Q m a' w') (c:P.follows .mixedOrders=true:=by kernel_rfl) (d:(B5 ops N&&T8 ops m&&Nx ops m&&J7 ops&&Nat.ble m ops.size)=true:=by kernel_rfl) (h:Ends P ops m 0 M M' obs:=by exact ⟨by kernel_rfl⟩):WP P r (.region id ops true) Q a w:=rD m M' hF b (λa' w' f x=>next a' w' f (e.later x)) c d h
theorem qDs {M M':FM} (m:Nat) (nw:FM) (hF:Fr N ds M a) (e:St w0 H w) (b:Obs P Ext (Ext w) obs) (next:∀a' w',Fr N ds M' a'->St w0 H w'->WI P r ops Q m a' w') [Pre nw M M'] (c:P.follows .mixedOrders=true:=by kernel_rfl) (d:(B5 ops N&&T8 ops m&&Nx ops m&&J7 ops&&Nat.ble m ops.size)=true:=by kernel_rfl) (h:Ends P ops m 0 M M' obs:=by exact ⟨by kernel_rfl⟩):WP P r (.region id ops true) Q a w:=qD m nw hF b (λa' w' f x=>next a' w' f (e.later x)) c d h
theorem St.fr {R:Res} (h:St w0 H w) (i j:Nat) (c:Ar w0 μ) (hi:H[i]? = some (Jv w0.heap.size μ):=by exact rfl) (hj:H[j]? = some R:=by exact rfl) (b:i≠j:=by decide):∃ν,μ.ext w0.heap.size ν/\Ar w0 ν/\St w0 ((H.set i (Jv w0.heap.size ν)).eraseIdx j) w/\∀w',FrzAt ν w'->R.holds w':=h.freeze hi hj b c
def un:List Nat->FM
 | []=>[]
 | t::l=>(t,undef)::un l
instance {M:FM}:Pre (un []) M M:=⟨⟩
instance {t:Nat} {l:List Nat} {M M':FM} [Pre (un l) M M']:Pre (un (t::l)) M ((t,undef)::M'):=⟨⟩
def skF (ops:Array Oper) (k:Nat) (M:FM):FM:=match dstAt ops k with|some d=>(d,undef)::M|none=>M
def skM (ops:Array Oper):Nat->Nat->FM->FM
 | 0,_,M=>M
 | n+1,k,M=>skM ops n (k+1) (skF ops k M)
def skC (ops:Array Oper):Nat->Nat->FM->List (Option Bool×List (Option Value))
 | 0,_,_=>[]
 | n+1,k,M=>(((ops[k]?).bind (·.guard)).bind (guardIs ops M),(skF ops k M).map (λp=>lookM (match dstAt ops k with|some d=>(d,undef)::M|none=>M) p.1))::skC ops n (k+1) (skF ops k M)
def skD (ops:Array Oper):Nat->Nat->FM->List (Option Bool×List (Option Value))
 | 0,_,_=>[]
 | n+1,k,M=>(some false,(skF ops k M).map (λp=>some p.2))::skD ops n (k+1) (skF ops k M)
theorem skR (b:B5 ops N=true) {k':Nat}:∀(n k:Nat) (M:FM) (a:Act),Fr N ds M a->skC ops n k M=skD ops n k M->k+n=k'->(∀a',Fr N ds (skM ops n k M) a'->WI P r ops Q k' a' w)->WI P r ops Q k a w
 | 0,k,M,a,hF,_,f,next=>by
  have e:k=k':=f
  subst e
  exact next a hF
 | n+1,k,M,a,hF,c,f,next=>by
  simp only [skC,skD,List.cons.injEq,Prod.mk.injEq] at c
  exact B0j (k+1) (skF ops k M) hF b ⟨c.1.1⟩ ⟨c.1.2⟩ rfl λa' d=>skR b n (k+1) (skF ops k M) a' d c.2 (by omega) next
theorem qks {M M':FM} (k':Nat) (l:List Nat) (hF:Fr N ds M a) (next:∀a',Fr N ds M' a'->WI P r ops Q k' a' w) [Pre (un l) M M'] (b:B5 ops N=true:=by kernel_rfl) (c:skC ops l.length k M=skD ops l.length k M:=by kernel_rfl) (d:skM ops l.length k M=M':=by kernel_rfl) (e:k+l.length=k':=by rfl):WI P r ops Q k a w:=skR b l.length k M a hF c e (by rw [d];exact next)
theorem oK {f:FuncId} (h:∀(μ:Frz) (w0:World),FrzAt μ w0->Calls P f args w0 (λe w=>e=.returned v/\Ext w0 w)) (l:Obs P Ext D obs):Obs P Ext D (.call [] f args v::obs):=oC (λw _=>h _ w (Ax w)) l
abbrev mps (m:Nat) (B:List (ByteArray×Value)):Res:=A7s Value.string (λv=>v) m B
abbrev fv (k:Nat) (cs:Array Value):Value:=.func (.func k) #[] cs
abbrev A0:=@wpIn_ret
abbrev A1:=@wpIn_block
abbrev Af:=@wpIn_exit
abbrev Al:=@wpIn_skip
abbrev A3:=@WI.region
abbrev Ai:=@WI.fin
abbrev Aw:=@WRun.fin
abbrev A9:=@Nat.lt_succ_self
abbrev Ad:=@Frz.le_refl
end Go.Eng
