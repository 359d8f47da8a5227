import Derived.Test.YtfkeddejdahnhaaGreatDoorQ3EE
import Derived.RecoverIn
import Derived.ProofKit
import Derived.OpenShut
import Derived.ChangeOld
import Derived.Carry
import Derived.DataElems
import Derived.Laws.StructEq
import Derived.Shelf.SlSortCmp.WholeK
import Derived.Shelf.SlSortCmp.NoneTotal
import Derived.Laws.BytesString
import Derived.Lib.ConvBytes
import Derived.LoopNIn
import Derived.Lib.Bytes
import Derived.Lib.Bytealg
import Derived.Lib.Strings
import Derived.Shelf.GgClosure.StringsIndexFunc
import Derived.Lib.LaidTab
import Derived.Lib.ItoaMem
import Derived.Lib.UnsafeStr
import Derived.MapKept
import Derived.Scope
import Derived.Maps.RangeRun
import Derived.Lib.AppendZerosOnto
import Derived.Laws.Externs
set_option linter.unusedVariables false
set_option linter.unusedSimpArgs false
set_option linter.unusedSectionVars false
namespace Go.Eng
open Go Go.RowKit
variable {α β γ κ:Type} {o:Oper} {f:α->List Value} {r:Option Nat} {d x u:α} {c l xs l' l3:List α} {P:Program} {T:World->World->Prop} {D:World->Prop} {w w' w0:World} {cs args:Array Value} {k sz cap b n m j N bytes id:Nat} {ad sad:Option Addr} {a a':Act} {H Rs:List Res} {R:Ending->World->Prop} {ys:List β} {ops:Array Oper} {Q:Exit->Act->World->Prop} {K K':Act->World->Prop} {ds:List Deferred} {M M':List (Nat×Value)} {v:Value} {tt kt:TypeId} {eff rest done:List Nat} {obs:List Ob} {lo hi:Int} {css:List (List α)} {S:α->β->Prop} {fn:Func} {ch:List PanicEntry} {fs:Array Field} {L:List (List β)} {kf:κ->Value} {es:List MapEntry} {ρ:Operand->Value} {news:List Value}
def ck (x:Int):Option Int:=if -9223372036854775808<=x/\x<=9223372036854775807 then some x else none
def Qy (x y:Int):Option Int:=if y=0 then none else ck (x.tdiv y)
def Jr (x y:Int):Option Int:=if y=0 then none else some (x.tmod y)
def Av {α:Type} (l:List α) (i:Int):Option α:=if 0<=i then l[i.toNat]? else none
def Ka {α:Type} (l:List α) (i:Int) (x:α):Option (List α):=if 0<=i/\i<l.length then some (l.set i.toNat x) else none
def Sx {α:Type} (l:List α) (lo hi:Int):Option (List α):=if 0<=lo/\lo<=hi/\hi<=l.length then some ((l.drop lo.toNat).take (hi.toNat-lo.toNat)) else none
def apd {α:Type} (B:Nat) (l k:List α):Option (List α):=if (l.length+k.length)*B<=140737488355328/\l.length+k.length<=9223372036854775807 then some (l++k) else none
def mkI {α:Type} (B:Nat) (n:Int) (x:α):Option (List α):=if 0<=n/\B*n.toNat<=281474976710656/\n<=9223372036854775807 then some (List.replicate n.toNat x) else none
def gd {α:Type} (g:Bool) (o:Option α) (d:α):Option α:=bif g then o else some d
theorem A7 {o:Option α} {f:α->Option β} {r:β} (h:o.bind f=some r):∃x,o=some x/\f x=some r:=Option.bind_eq_some_iff.1 h
theorem C8 {g:Bool} {o:Option α} (h:gd g o d=some x) (b:g=true):o=some x:=by subst b;exact h
theorem Dt {c:Bool} {y z:α} (h:(bif c then x else y)=z) (b:c=true):x=z:=by subst b;exact h
theorem Dr {c:Bool} {y z:α} (h:(bif c then x else y)=z) (b:c=false):y=z:=by subst b;exact h
theorem Yc {x y:Int} (h:ck x=some y):y=x/\-9223372036854775808<=x/\x<=9223372036854775807:=by
 unfold ck at h
 split at h
 ·cases h;exact ⟨rfl,by assumption⟩
 ·cases h
theorem P2 {i:Int} (h:Av l i=some x):0<=i/\i<l.length/\l[i.toNat]? = some x:=by
 unfold Av at h
 split at h
 ·have:=(List.getElem?_eq_some_iff.1 h).1;exact ⟨by assumption,om,h⟩
 ·cases h
section
variable {cs:List Cd} {t:TypeId} {x y z:Int}
theorem A6m (h:Br cs=true->ck (x+y)=some z):Ob.ok P T D (.run cs (binOp .add t (.int .i64 x) (.int .i64 y)) (.int .i64 z)) :=
 obC λb=>by obtain ⟨rfl,hb⟩:=Yc (h b);exact C03 hb
theorem Zn (h:Br cs=true->ck (x-y)=some z):Ob.ok P T D (.run cs (binOp .sub t (.int .i64 x) (.int .i64 y)) (.int .i64 z)) :=
 obC λb=>by obtain ⟨rfl,hb⟩:=Yc (h b);exact C07 hb
theorem B29 (h:Br cs=true->ck (x*y)=some z):Ob.ok P T D (.run cs (binOp .mul t (.int .i64 x) (.int .i64 y)) (.int .i64 z)) :=
 obC λb=>by obtain ⟨rfl,hb⟩:=Yc (h b);exact C06 hb
theorem B2b (h:Br cs=true->Qy x y=some z):Ob.ok P T D (.run cs (binOp .quo t (.int .i64 x) (.int .i64 y)) (.int .i64 z)) :=
 obC λb=>by
  have h:=h b;unfold Qy at h
  split at h
  ·cases h
  ·obtain ⟨rfl,hb⟩:=Yc h;have:=B85 (P:=P) (T:=T) (D:=D) (cs:=cs) (t:=t) (x:=x) (y:=y) (by assumption)
   rwa [Go.Eng.wrap64 hb] at this
theorem B2c (h:Br cs=true->Jr x y=some z):Ob.ok P T D (.run cs (binOp .rem t (.int .i64 x) (.int .i64 y)) (.int .i64 z)) :=
 obC λb=>by
  have h:=h b;unfold Jr at h
  split at h
  ·cases h
  ·cases h;exact B87 (by assumption)
theorem Gy {src dst:TypeId} {k:IntKind} (b:(P.underlying src).isSome=true) (hd:P.underlying dst=some (.int .i64)) (h:Br cs=true->ck x=some z) :
  Ob.ok P T D (.run cs (convert src dst (.int k x)) (.int .i64 z)):=obC λc=>by obtain ⟨rfl,hb⟩:=Yc (h c);exact B81 b hd hb
theorem A7o {i:Nat} (h:l[i]? = some u):l.getD i d=u:=by rw [List.getD_eq_getElem?_getD,h];rfl
end
abbrev Frz:=Nat->Option Obj
variable {μ ν:Frz}
def Frz.le (μ ν:Frz):Prop:=∀b o,μ b=some o->ν b=some o
def FrzAt (μ:Frz) (w:World):Prop:=∀b o,μ b=some o->w.heap[b]? = some o
def C3 (w:World):Frz:=λb=>w.heap[b]?
def Frz.ext (n:Nat) (μ ν:Frz):Prop:=μ.le ν/\∀b o,ν b=some o->b<n->μ b=some o
def Ar (w0:World) (μ:Frz):Prop:=∀b o,b<w0.heap.size->μ b=some o->w0.heap[b]? = some o
def Lt (n:Nat) (μ:Frz):Res where
 foot:=λb=>n<=b/\∃o,μ b=some o
 holds:=λw=>∀b o,n<=b->μ b=some o->w.heap[b]? = some o
 loc:=λw w' h hb b o hn ho=>(h b ⟨hn,o,ho⟩).trans (hb b o hn ho)
 lt:=λw b hb hk=>by obtain ⟨hn,o,ho⟩:=hk;exact (Array.getElem?_eq_some_iff.1 (hb b o hn ho)).1
theorem Frz.le_refl (μ:Frz):μ.le μ:=λ_ _ h=>h
theorem Frz.le_trans {a b c:Frz} (h:a.le b) (k:b.le c):a.le c:=λx o d=>k x o (h x o d)
theorem Frz.ext_refl (n:Nat) (μ:Frz):μ.ext n μ:=⟨μ.le_refl,λ_ _ h _=>h⟩
theorem Frz.ext_trans {a b c:Frz} (h:a.ext n b) (k:b.ext n c):a.ext n c:=⟨Frz.le_trans h.1 k.1,λx o d hn=>h.2 x o (k.2 x o d hn) hn⟩
theorem Frz.ext_mono {a b:Frz} (h:a.ext n b) (hm:m<=n):a.ext m b:=⟨h.1,λx o c hn=>h.2 x o c om⟩
theorem At (w:World):FrzAt (C3 w) w:=λ_ _ h=>h
theorem FrzAt.le_mem (h:FrzAt μ w):μ.le (C3 w):=h
theorem FrzAt.low (h:FrzAt ν w) (c:μ.le ν):FrzAt μ w:=λb o hb=>h b o (c b o hb)
section
variable {R:Res}
theorem FrzAt.later (h:FrzAt μ w) (c:Ext w w'):FrzAt μ w':=λb o hb=>c.block (h b o hb)
theorem FrzAt.init (h:FrzAt μ w0):Ar w0 μ/\St w0 [Lt w0.heap.size μ] w0 :=
 ⟨λb o _ hb=>h b o hb,(St.init w0).push (Ext.refl w0) (λb o _ hb=>h b o hb) (λ_ hb=>hb.1)⟩
theorem St.frz {i:Nat} (h:St w0 H w) (hi:H[i]? = some (Lt w0.heap.size μ)) (e:Ar w0 μ):FrzAt μ w:=λb o hb=>by
 rcases Nat.lt_or_ge b w0.heap.size with c|d
 ·exact h.ext.block (e b o c hb)
 ·exact h.res hi b o d hb
theorem St.freezeT {i:Nat} (h:St w0 H w) (hi:H[i]? = some (Lt w0.heap.size μ)) (hj:H[j]? = some R) (c3:i≠j) (hl:Ar w0 μ) :
  ∃ν,μ.ext w0.heap.size ν/\Ar w0 ν/\St w0 ((H.set i (Lt w0.heap.size ν)).eraseIdx j) w/\(∀w',FrzAt ν w'->R.holds w')/\∀b,R.foot b->μ b=none/\(∃o,ν b=some o)/\w0.heap.size<=b:=by
 classical
 have hR:=h.res hj;have b4:R∈H:=List.mem_of_getElem? hj;refine ⟨λb=>if R.foot b then w.heap[b]? else μ b,⟨λb o hb=>?_,λb o hb hn=>?_⟩,λb o n hb=>?_,?_,λw' c5=>?_,λb c=>?_⟩
 ·by_cases c:R.foot b
  ·simp only [if_pos c];exact h.frz hi hl b o hb
  ·simp only [if_neg c];exact hb
 ·have c:¬R.foot b:=λc=>by have:=h.low R b4 b c;omega
  simp only [if_neg c] at hb;exact hb
 ·have c:¬R.foot b:=λc=>by have:=h.low R b4 b c;omega
  simp only [if_neg c] at hb;exact hl b o n hb
 ·
  have l:i<H.length:=(List.getElem?_eq_some_iff.1 hi).1;have d0:j<H.length:=(List.getElem?_eq_some_iff.1 hj).1;have b1:∀S,S∈(H.set i (Lt w0.heap.size λb=>if R.foot b then w.heap[b]? else μ b)).eraseIdx j->S=Lt w0.heap.size (λb=>if R.foot b then w.heap[b]? else μ b)\/∃k,k≠i/\k≠j/\H[k]? = some S:=by
   intro S hS;obtain ⟨k,f⟩:=List.mem_iff_getElem?.1 hS;rw [List.getElem?_eraseIdx] at f
   by_cases x:k<j
   ·rw [if_pos x] at f
    by_cases d:k=i
    ·subst d;rw [List.getElem?_set_self l] at f;cases f;exact .inl rfl
    ·rw [List.getElem?_set_ne (Ne.symm d)] at f;exact .inr ⟨k,d,om,f⟩
   ·rw [if_neg x] at f
    by_cases d:k+1=i
    ·rw [d,List.getElem?_set_self l] at f;cases f;exact .inl rfl
    ·rw [List.getElem?_set_ne (Ne.symm d)] at f;exact .inr ⟨k+1,d,om,f⟩
  have apart:∀(p q:Nat) (S S':Res),p≠q->H[p]? = some S->H[q]? = some S'->∀b,S.foot b->¬S'.foot b:=by
   intro p q S S' b9 hp hq b hb g;have r:=(List.getElem?_eq_some_iff.1 hp).1;have s:=(List.getElem?_eq_some_iff.1 hq).1;have e1:H[p]=S:=(List.getElem?_eq_some_iff.1 hp).2;have e2:H[q]=S':=(List.getElem?_eq_some_iff.1 hq).2;rcases Nat.lt_or_gt_of_ne b9 with n|b5
   ·have:=List.pairwise_iff_getElem.1 h.apart p q r s n;rw [e1,e2] at this;exact this b hb g
   ·have:=List.pairwise_iff_getElem.1 h.apart q p s r b5;rw [e1,e2] at this;exact this b g hb
  have b2:∀k S,k≠i->k≠j->H[k]? = some S->∀b,(Lt w0.heap.size λb=>if R.foot b then w.heap[b]? else μ b).foot b->¬S.foot b:=by
   intro k S d x f b hb c0;obtain ⟨hn,o,ho⟩:=hb
   by_cases c:R.foot b
   ·exact apart j k R S (Ne.symm x) hj f b c c0
   ·simp only [if_neg c] at ho;exact apart i k _ S (Ne.symm d) hi f b ⟨hn,o,ho⟩ c0
  refine ⟨h.ext,λS hS=>?_,λS hS b hb=>?_,?_⟩
  ·rcases b1 S hS with rfl|⟨k,_,_,f⟩
   ·intro b o hn ho
    by_cases c:R.foot b
    ·simp only [if_pos c] at ho;exact ho
    ·simp only [if_neg c] at ho;exact h.res hi b o hn ho
   ·exact h.res f
  ·rcases b1 S hS with rfl|⟨k,_,_,f⟩
   ·exact hb.1
   ·exact h.low S (List.mem_of_getElem? f) b hb
  ·rw [List.pairwise_iff_getElem];intro p q hp hq b9 b hb g;have key:∀z (hz:z<((H.set i (Lt w0.heap.size λb=>if R.foot b then w.heap[b]? else μ b)).eraseIdx j).length),∃z',(p<q->True)/\((H.set i (Lt w0.heap.size λb=>if R.foot b then w.heap[b]? else μ b))[z']? = some ((H.set i (Lt w0.heap.size λb=>if R.foot b then w.heap[b]? else μ b)).eraseIdx j)[z])/\z'≠j/\(z'=if z<j then z else z+1):=by
    intro z hz;have t:=List.getElem?_eq_getElem hz;rw [List.getElem?_eraseIdx] at t
    by_cases y:z<j
    ·rw [if_pos y] at t;exact ⟨z,λ_=>trivial,t,om,by rw [if_pos y]⟩
    ·rw [if_neg y] at t;exact ⟨z+1,λ_=>trivial,t,om,by rw [if_neg y]⟩
   obtain ⟨p',_,u,c6,ep⟩:=key p hp;obtain ⟨q',_,m,c7,eq⟩:=key q hq;have b3:p'≠q':=by rw [ep,eq];split<;>split<;>omega
   by_cases b0:p'=i
   ·rw [b0,List.getElem?_set_self l] at u;have v:q'≠i:=λe=>b3 (by rw [b0,e]);rw [List.getElem?_set_ne (Ne.symm v)] at m;rw [←Option.some.inj u] at hb;exact b2 q' _ v c7 m b hb g
   ·rw [List.getElem?_set_ne (Ne.symm b0)] at u
    by_cases v:q'=i
    ·rw [v,List.getElem?_set_self l] at m;rw [←Option.some.inj m] at g;exact b2 p' _ b0 c6 u b g hb
    ·rw [List.getElem?_set_ne (Ne.symm v)] at m;exact apart p' q' _ _ b3 u m b hb g
 ·refine R.loc w w' (λb hb=>?_) hR;have b6:=R.lt w b hR hb;have:w.heap[b]? = some w.heap[b]:=Array.getElem?_eq_getElem b6;rw [this];exact c5 b _ (by simp only [if_pos hb];exact this)
 ·have b6:=R.lt w b hR c;have b7:=h.low R b4 b c;refine ⟨?_,⟨w.heap[b],by simp only [if_pos c];exact Array.getElem?_eq_getElem b6⟩,b7⟩
  cases hm:μ b with
  | none=>rfl
  | some o =>
   exfalso;have r:=(List.getElem?_eq_some_iff.1 hi).1;have s:=(List.getElem?_eq_some_iff.1 hj).1;have e1:=(List.getElem?_eq_some_iff.1 hi).2;have e2:=(List.getElem?_eq_some_iff.1 hj).2;rcases Nat.lt_or_gt_of_ne c3 with n|b5
   ·have:=List.pairwise_iff_getElem.1 h.apart i j r s n;rw [e1,e2] at this;exact this b ⟨b7,o,hm⟩ c
   ·have:=List.pairwise_iff_getElem.1 h.apart j i s r b5;rw [e1,e2] at this;exact this b c ⟨b7,o,hm⟩
theorem St.freeze {i:Nat} (h:St w0 H w) (hi:H[i]? = some (Lt w0.heap.size μ)) (hj:H[j]? = some R) (b:i≠j) (c:Ar w0 μ) :
  ∃ν,μ.ext w0.heap.size ν/\Ar w0 ν/\St w0 ((H.set i (Lt w0.heap.size ν)).eraseIdx j) w/\∀w',FrzAt ν w'->R.holds w':=by
 obtain ⟨ν,d,e,f,g,_⟩:=h.freezeT hi hj b c;exact ⟨ν,d,e,f,g⟩
theorem St.frzMerge {i:Nat} {Hn:List Res} (h:St w0 H w) (hi:H[i]? = some (Lt w0.heap.size μ)) (hl:Ar w0 μ) (hx:μ.ext w.heap.size ν) (hQ:St w (Lt w.heap.size ν::Hn) w') :
  Ar w0 ν/\St w0 (Hn++H.set i (Lt w0.heap.size ν)) w':=by
 have c4:=h.ext.size;refine ⟨λb o g hb=>hl b o g (hx.2 b o hb om),?_⟩;have h1:St w0 (Lt w.heap.size ν::Hn++H) w':=h.madeL hQ;have x:i<H.length:=(List.getElem?_eq_some_iff.1 hi).1;have j:St w0 (Lt w.heap.size ν::Hn) w':=h1.sub (List.sublist_append_left _ _);have e:St w0 H w':=h1.sub (List.sublist_append_right _ _);have t:=List.pairwise_append.1 h1.apart;have y:=List.pairwise_cons.1 t.1;have cases_:∀b o,w0.heap.size<=b->ν b=some o->(Lt w0.heap.size μ).foot b\/(Lt w.heap.size ν).foot b:=by
  intro b o hn hb;rcases Nat.lt_or_ge b w.heap.size with g|b7
  ·exact .inl ⟨hn,o,hx.2 b o hb g⟩
  ·exact .inr ⟨b7,o,hb⟩
 have l:∀S,S∈H.set i (Lt w0.heap.size ν)->S=Lt w0.heap.size ν\/∃k,k≠i/\H[k]? = some S:=by
  intro S d;obtain ⟨k,f⟩:=List.mem_iff_getElem?.1 d
  by_cases m:k=i
  ·subst m;rw [List.getElem?_set_self x] at f;cases f;exact .inl rfl
  ·rw [List.getElem?_set_ne (Ne.symm m)] at f;exact .inr ⟨k,m,f⟩
 have u:Lt w0.heap.size μ∈H:=List.mem_of_getElem? hi;have apart:∀(p q:Nat) (S S':Res),p≠q->H[p]? = some S->H[q]? = some S'->∀b,S.foot b->¬S'.foot b:=by
  intro p q S S' z t hq b hb c;have r:=(List.getElem?_eq_some_iff.1 t).1;have s:=(List.getElem?_eq_some_iff.1 hq).1;have e1:H[p]=S:=(List.getElem?_eq_some_iff.1 t).2;have e2:H[q]=S':=(List.getElem?_eq_some_iff.1 hq).2;rcases Nat.lt_or_gt_of_ne z with g|b8
  ·have:=List.pairwise_iff_getElem.1 e.apart p q r s g;rw [e1,e2] at this;exact this b hb c
  ·have:=List.pairwise_iff_getElem.1 e.apart q p s r b8;rw [e1,e2] at this;exact this b c hb
 have b9:∀S,S∈Hn->∀b,(Lt w0.heap.size ν).foot b->¬S.foot b:=by
  intro S d b hb n;obtain ⟨hn,o,ho⟩:=hb;rcases cases_ b o hn ho with hb|hb
  ·exact t.2.2 S (List.mem_cons_of_mem _ d) _ u b n hb
  ·exact y.1 S d b hb n
 have b0:∀k S,k≠i->H[k]? = some S->∀b,(Lt w0.heap.size ν).foot b->¬S.foot b:=by
  intro k S m f b hb n;obtain ⟨hn,o,ho⟩:=hb;rcases cases_ b o hn ho with hb|hb
  ·exact apart i k _ S (Ne.symm m) hi f b hb n
  ·exact t.2.2 _ (List.mem_cons_self ..) S (List.mem_of_getElem? f) b hb n
 refine ⟨h1.ext,λS d=>?_,λS d b hb=>?_,?_⟩
 ·rcases List.mem_append.1 d with d|d
  ·exact j.holds S (List.mem_cons_of_mem _ d)
  ·rcases l S d with rfl|⟨k,_,f⟩
   ·intro b o hn ho;rcases cases_ b o hn ho with hb|hb
    ·obtain ⟨_,o',b1⟩:=hb;have:=e.res hi b o' hn b1;rw [this,←hx.1 b o' b1,ho]
    ·exact j.res (i:=0) rfl b o hb.1 ho
   ·exact e.res f
 ·rcases List.mem_append.1 d with d|d
  ·exact j.low S (List.mem_cons_of_mem _ d) b hb
  ·rcases l S d with rfl|⟨k,_,f⟩
   ·exact hb.1
   ·exact e.low S (List.mem_of_getElem? f) b hb
 ·refine List.pairwise_append.2 ⟨y.2,?_,λS d S' c0 b hb c=>?_⟩
  ·rw [List.pairwise_iff_getElem];intro p q r s z b hb c;have b2:p<H.length:=by simpa using r
   have b3:q<H.length:=by simpa using s
   by_cases v:p=i
   ·subst v;rw [List.getElem_set_self] at hb;rw [List.getElem_set_ne om] at c;exact b0 q _ om (List.getElem?_eq_getElem b3) b hb c
   ·rw [List.getElem_set_ne (Ne.symm v)] at hb
    by_cases b4:q=i
    ·subst b4;rw [List.getElem_set_self] at c;exact b0 p _ v (List.getElem?_eq_getElem b2) b c hb
    ·rw [List.getElem_set_ne (Ne.symm b4)] at c;exact apart p q _ _ om (List.getElem?_eq_getElem b2) (List.getElem?_eq_getElem b3) b hb c
  ·rcases l S' c0 with rfl|⟨k,_,f⟩
   ·exact b9 S d b c hb
   ·exact t.2.2 S (List.mem_cons_of_mem _ d) S' (List.mem_of_getElem? f) b hb c
end
inductive All2 {α β:Type} (R:α->β->Prop):List α->List β->Prop
 | nil:All2 R [] []
 | cons {x:α} {y:β} {xs:List α} {ys:List β}:R x y->All2 R xs ys->All2 R (x::xs) (y::ys)
def ArrM {α:Type} (μ:Frz) (sz:Nat) (f:α->List Value) (ad:Option Addr) (cap:Nat) (l:List α):Prop:=∀w,FrzAt μ w->Arr w sz f ad l.length cap l
def BlkM (μ:Frz) (b:Nat) (t:TypeId) (cs:Array Value):Prop:=∀w,FrzAt μ w->Blk w b t cs
section
variable {e:Nat}
theorem ArrM.mono (h:ArrM μ sz f ad cap l) (b:μ.le ν):ArrM ν sz f ad cap l:=λw c=>h w (c.low b)
theorem BlkM.mono {t:TypeId} (h:BlkM μ b t cs) (c:μ.le ν):BlkM ν b t cs:=λw d=>h w (d.low c)
theorem ArrM.nil:ArrM μ sz f none 0 ([]:List α):=λ_ _=>Arr.nil
theorem Arr.alike (h:Arr w sz f ad n cap l) (c:FrzAt (C3 w) w'):Arr w' sz f ad n cap l:=by
 obtain ⟨d,ad',cap',e,g,i,m,o⟩:=h;refine ⟨d,ad',cap',e,g,i,m,λhn=>?_⟩;obtain ⟨a,p,b,q⟩:=o hn;have hb:∀k,k<w.heap.size->w'.heap[k]? = w.heap[k]?:=λk r=>by
  have:w.heap[k]? = some w.heap[k]:=Array.getElem?_eq_getElem r;rw [this];exact c k _ this
 refine ⟨a,p,?_,λj u s=>?_⟩
 ·have:=hb _ b;rw [Array.getElem?_eq_getElem b] at this;exact (Array.getElem?_eq_some_iff.1 this).1
 ·have:=q j u s;unfold World.cell? at this ⊢;rw [Uq] at this ⊢;rw [hb _ b];exact this
theorem Arr.toM (h:Arr w sz f ad l.length cap l):ArrM (C3 w) sz f ad cap l:=λ_ b=>h.alike b
theorem ArrM.of_arr (h:∀w,FrzAt ν w->(arr e sz f ad l.length cap l).holds w):ArrM ν sz f ad cap l:=λw b=>⟨rfl,Sl.of_own (h w b).2⟩
theorem An {R:α->β->Prop} (h:All2 R xs ys) {i:Int} {y:β} (c:Av ys i=some y):∃x,Av xs i=some x/\R x y:=by
 have h0:=(P2 c).1;have b:=(P2 c).2.2;unfold Av;rw [if_pos h0]
 clear c h0
 generalize i.toNat=k at b
 induction h generalizing k with
 | nil=>simp at b
 | cons d _ ih =>
  cases k with
  | zero=>simp at b;subst b;exact ⟨_,rfl,d⟩
  | succ k=>simp at b;exact ih k b
end
def SK (P:Program) (r:Option Nat) (ops:Array Oper) (k:Nat) (K:Act->World->Prop) (a:Act) (w:World):Prop :=
 ∃o,ops[k]? = some o/\OpG P r ops o a w (λv w'=>K (a.put o.dst v) w')
section
theorem SK.wi (h:SK P r ops k (λa w=>WI P r ops Q (k+1) a w) a w):WI P r ops Q k a w:=by
 obtain ⟨o,ho,h⟩:=h;exact WI.cons ho h (λ_ _ h=>h)
theorem B4w (c:Fr N ds M a) (b:Bg ops N=true) (ho:plainAt ops k M=some o) (hr:(execOp (rhoE (ofM M)) o).run P w=.ok (.value v) w')
  (e:NextM ops k M v M') (next:∀a',Fr N ds M' a'->K a' w'):SK P r ops k K a w:=by
 obtain ⟨d,f,g⟩:=Mb (r:=r) ho c;refine ⟨o,d,?_⟩;unfold OpG OpR;rw [if_pos f,g,hr];exact next _ (K4 d b c e)
theorem B6c (c:Fr N ds M a) (b:Bg ops N=true) (ho:plainAt ops k M=some o) (hr:(execOp (rhoE (ofM M)) o).run P w=.ok .skip w')
  (e:NextM ops k M undef M') (next:∀a',Fr N ds M' a'->K a' w'):SK P r ops k K a w:=by
 obtain ⟨d,f,g⟩:=Mb (r:=r) ho c;refine ⟨o,d,?_⟩;unfold OpG OpR;rw [if_pos f,g,hr];exact next _ (K4 d b c e)
theorem A8r {s:Sem Value} (d:Fr N ds M a) (c:Bg ops N=true) (b:EffAt ops k M s) (hr:s.run P w=.ok v w')
  (e:NextM ops k M v M') (next:∀a',Fr N ds M' a'->K a' w'):SK P r ops k K a w:=by
 have b:=b.eq
 cases ho:plainAt ops k M with
 | none=>rw [ho] at b;simp at b
 | some o =>
  rw [ho] at b;exact B4w d c ho (A66 b hr).2 e next
theorem B6v (M':Nat->List (Nat×Value)) {t:TypeId} (v:Value) (cs:Array Value) (f:Fr N ds M a) (g:St w0 H w) (c:Bg ops N=true) (i:EffAt ops k M (Instr.box t v)) (d:v.cells=cs)
  (j:∀b,NextM ops k M (.pointer (some ⟨b,0,none⟩)) (M' b))
  (next:∀b w' a',Fr N ds (M' b) a'->St w0 (blk b t cs::H) w'->K a' w'):SK P r ops k K a w:=by
 refine A8r f c i (v:=.pointer (some ⟨w.heap.size,0,none⟩)) (w':={ w with heap:=w.heap.push (.cells cs t) }) ?_ (j _) ?_
 ·subst d;simp [Instr.box,newVar,newRow]
 ·intro a' e;exact next _ _ a' e (g.push (Wy w _) (A3f w t cs) (λb hb=>by rw [show b=w.heap.size from hb];exact Nat.le_refl _))
theorem B08 (M':Nat->List (Nat×Value)) {t:TypeId} (cs:Array Value) (g:Fr N ds M a) (j:St w0 H w) (e:Bg ops N=true) (l:EffAt ops k M (Instr.alloc t true (.tuple #[])))
  (c:((P.info? t).bind (·.zero)).map Value.cells=some cs) (m:∀b,NextM ops k M (.pointer (some ⟨b,0,none⟩)) (M' b))
  (next:∀b w' a',Fr N ds (M' b) a'->St w0 (blk b t cs::H) w'->K a' w'):SK P r ops k K a w:=by
 refine A8r g e l (v:=.pointer (some ⟨w.heap.size,0,none⟩)) (w':={ w with heap:=w.heap.push (.cells cs t) }) ?_ (m _) ?_
 ·cases hi:P.info? t with
  | none=>rw [hi] at c;simp at c
  | some i =>
   cases d:i.zero with
   | none=>rw [hi] at c;simp [d] at c
   | some z =>
    rw [hi] at c;simp [d] at c;subst c;simp [Instr.alloc,zeroValue,typeInfo,hi,d,newVar,newRow]
 ·intro a' f;exact next _ _ a' f (j.push (Wy w _) (A3f w t cs) (λb hb=>by rw [show b=w.heap.size from hb];exact Nat.le_refl _))
theorem A36 {t:TypeId} {p:Addr} (e:Fr N ds M a) (c:Bg ops N=true) (b:StoreAt ops k M t (.pointer (some p)) v) (hr:(storeVar t p v).run P w=.ok () w')
  (f:NextM ops k M undef M') (next:∀a',Fr N ds M' a'->K a' w'):SK P r ops k K a w:=by
 have b:=b.eq
 cases ho:plainAt ops k M with
 | none=>rw [ho] at b;simp at b
 | some o =>
  rw [ho] at b;simp only [Option.bind_some] at b
  split at b
  ·rename_i t' x y d
   simp at b;obtain ⟨rfl,g,i⟩:=b;refine B6c e c ho ?_ f next
   unfold execOp;rw [d];simp [Instr.storeAt,Instr.sureAddr,g,i,hr]
  ·simp at b
theorem Lk (M':List (Nat×Value)) (i:Nat) {t:TypeId} (off:Nat) (v:Value) (cs':Array Value) (p:Fr N ds M a) (o:St w0 H w) (hi:H[i]? = some (blk b tt cs)) (c:Bg ops N=true)
  (q:StoreAt ops k M t (.pointer (some ⟨b,off,none⟩)) v) (l:pureSem P (sizeOf t)=some v.cells.size) (d:v.cells.toList.all Value.oneCell'=true) (e:Nat.ble (off+v.cells.size) cs.size=true) (m:Y1 cs off v.cells.toList=cs')
  (s:NextM ops k M undef M') (next:∀w' a',Fr N ds M' a'->St w0 (H.set i (blk b tt cs')) w'->K a' w'):SK P r ops k K a w:=by
 have hb:=o.blk hi;have f:=Bl _ _ l w;have g:=run_storeCells_at P b off tt v.cells.toList 0 cs w hb (by simpa using Nat.le_of_ble_eq_true e) (λu x=>List.all_eq_true.1 d u x);simp only [Nat.add_zero] at g;refine A36 p c q (w':=w.setRow b cs') ?_ s ?_
 ·subst m;unfold Y1;simp [storeVar,f,g]
 ·intro a' n;refine next _ a' n (o.upd hi rfl rfl rfl (by simp [World.setRow]) (λj _ hj=>setRow_other w b j _ hj) ?_ (λj hj=>.inl hj))
  show (w.setRow b cs').heap[b]? = _;exact setRow_heap w b cs _ tt _ hb
theorem B0f (M':Value->List (Nat×Value)) {f:FuncId} {R:Value->World->Prop} (d:Fr N ds M a) (c:Bg ops N=true) (b:CallAt P ops k M f args)
  (i:Calls P f args w (λe w'=>∃v,e=.returned v/\R v w')) (j:∀v,NextM ops k M v (M' v)) (next:∀v w' a',R v w'->Fr N ds (M' v) a'->K a' w'):SK P r ops k K a w:=by
 have b:=b.eq
 cases ho:plainAt ops k M with
 | none=>rw [ho] at b;simp at b
 | some o =>
  rw [ho] at b;simp only [Option.bind_some] at b
  split at b
  ·rename_i f' args' l
   simp at b;obtain ⟨rfl,rfl⟩:=b;obtain ⟨g,m,n⟩:=Mb (r:=r) ho d;refine ⟨o,g,?_⟩;unfold OpG OpR;rw [if_pos m,n,Bl _ _ l w];refine Calls.mono i ?_;rintro e w'' ⟨v,rfl,p⟩;exact ⟨v,rfl,next v w'' _ p (K4 g c d (j v))⟩
  ·simp at b
def Up (P:Program) (f:FuncId) (args:Array Value) (w:World) (R:Value->World->Prop):Prop:=Calls P f args w (λe w'=>∃v,e=.returned v/\R v w')
theorem B62 (M':Value->List (Nat×Value)) {f:FuncId} {R:Value->World->Prop} (c:Fr N ds M a) (b:Bg ops N=true) (d:CallAt P ops k M f args)
  (e:Up P f args w R) (g:∀v,NextM ops k M v (M' v)) (next:∀v w' a',R v w'->Fr N ds (M' v) a'->K a' w'):SK P r ops k K a w:=B0f M' c b d e g next
theorem Nf (M':List (Nat×Value)) {f:FuncId} (d:Fr N ds M a) (c:Bg ops N=true) (b:CallAt P ops k M f args)
  (i:Calls P f args w (λe w'=>e=.returned v/\Ext w w')) (j:NextM ops k M v M') (next:∀w' a',Ext w w'->Fr N ds M' a'->K a' w'):SK P r ops k K a w:=by
 have b:=b.eq
 cases ho:plainAt ops k M with
 | none=>rw [ho] at b;simp at b
 | some o =>
  rw [ho] at b;simp only [Option.bind_some] at b
  split at b
  ·rename_i f' args' l
   simp at b;obtain ⟨rfl,rfl⟩:=b;obtain ⟨g,m,n⟩:=Mb (r:=r) ho d;refine ⟨o,g,?_⟩;unfold OpG OpR;rw [if_pos m,n,Bl _ _ l w];refine Calls.mono i ?_;rintro e w'' ⟨rfl,p⟩;exact ⟨v,rfl,next w'' _ p (K4 g c d j)⟩
  ·simp at b
variable {e:Nat}
theorem A99 (M':Nat->List (Nat×Value)) {t len:Nat} (parts:Array (Nat×Value)) (cs:Array Value) (l:List α) (g:Fr N ds M a) (i:St w0 H w) (c:Bg ops N=true) (j:EffAt ops k M (Instr.buildSlice t len parts))
  (hb:Rc P t len parts=some (e,cs)) (m:∀x,(f x).length=sz) (o:l.length=len) (p:l.flatMap f=cs.toList) (hn:Nat.ble len 16777216=true) (q:∀b,NextM ops k M (.slice (some ⟨b,0,none⟩) len len) (M' b))
  (next:∀b w' a',Fr N ds (M' b) a'->St w0 (arr e sz f (some ⟨b,0,none⟩) l.length len l::H) w'->K a' w'):SK P r ops k K a w:=by
 subst o;refine A8r g c j (A12 hb) (q _) ?_;intro a' d;have s:St w0 (blk w.heap.size e cs::H) { w with heap:=w.heap.push (.cells cs e) }:=i.push (Wy w _) (A3f w e cs) (λb hb=>by rw [show b=w.heap.size from hb];exact Nat.le_refl _);have u:=s.blk_arr (f:=f) (sz:=sz) (l:=l) (n:=l.length) m rfl p (by have:=Nat.le_of_ble_eq_true hn;simp only [maxLen];omega);exact next _ _ a' d u
theorem Pg {B:Nat} (h:apd B l l'=some l3):l3=l++l'/\(l.length+l'.length)*B<=140737488355328/\l.length+l'.length<=maxLen:=by
 unfold apd at h
 split at h
 ·cases h;rename_i h;exact ⟨rfl,h.1,h.2⟩
 ·cases h
theorem B9g (M':Option Addr->Nat->List (Nat×Value)) (i:Nat) {t ty scap:Nat} (hF:Fr N ds M a) (hS:St w0 H w) (hi:H[i]? = some (arr e sz f ad l.length cap l)) (d:Bg ops N=true)
  (hs:EffAt ops k M (Builtin.append_ #[t,t] ty #[.slice ad l.length cap,.slice sad l'.length scap])) (p:Q4 P t e sz bytes=true) (g:Arr w sz f sad l'.length scap l') (h1:∀x∈l',(f x).all Value.oneCell'=true) (q:apd bytes l l'=some l3)
  (hM:∀ad2 cap2,NextM ops k M (.slice ad2 l3.length cap2) (M' ad2 cap2))
  (next:∀ad2 cap2 w' a',Fr N ds (M' ad2 cap2) a'->St w0 (H.set i (arr e sz f ad2 l3.length cap2 l3)) w'->K a' w'):SK P r ops k K a w:=by
 obtain ⟨rfl,hb,s⟩:=Pg q;have m:=hS.holds _ (List.mem_of_getElem? hi);obtain ⟨ad2,cap2,w',hr,c,n,o⟩:=B51 (ty:=ty) p m.2 g.2 (λu hu=>by
  obtain ⟨x,hx,v⟩:=List.mem_flatMap.1 hu;exact List.all_eq_true.1 (h1 x hx) u v) hb s
 have b:(l++l').length=l.length+l'.length:=List.length_append;refine A8r hF d hs hr (by rw [←b];exact hM ad2 cap2) ?_;intro a' y;rw [←List.flatMap_append] at c;refine next ad2 cap2 w' a' y (hS.upd hi n.os n.tape n.output n.size (λj hj z=>n.block j hj (λe=>z e.symm)) ⟨rfl,?_⟩ ?_)
 ·rw [b];exact c
 ·rw [b];exact o
theorem A1j (z:Array Value) (n:Nat):(madeCells z (n*z.size)).toList=(List.replicate n ()).flatMap λ_=>z.toList:=by
 unfold madeCells;simp only [Array.toList_map,Array.toList_range]
 induction n with
 | zero=>simp
 | succ n ih =>
  rw [List.replicate_succ',List.flatMap_append,←ih];rw [show (n+1)*z.size=n*z.size+z.size by rw [Nat.add_mul,Nat.one_mul],List.range_add,List.map_append]
  congr 1
  simp only [List.map_map,List.flatMap_cons,List.flatMap_nil,List.append_nil];apply List.ext_getElem
  ·simp
  ·intro i c b;simp at c b;simp only [List.getElem_map,List.getElem_range,Function.comp];have:(n*z.size+i)%z.size=i:=by rw [Nat.mul_comm,Nat.mul_add_mod];exact Nat.mod_eq_of_lt b
   rw [this];simp [b]
theorem A1n {B:Nat} {n:Int} (h:mkI B n x=some l):0<=n/\l=List.replicate n.toNat x/\B*n.toNat<=281474976710656/\n.toNat<=maxLen:=by
 unfold mkI at h
 split at h
 ·cases h;rename_i h;exact ⟨h.1,rfl,h.2.1,by simp only [maxLen];omega⟩
 ·cases h
theorem A2z (M':Nat->List (Nat×Value)) {t:Nat} {n:Int} (x0:α) {z:Value} (hF:Fr N ds M a) (hS:St w0 H w) (d:Bg ops N=true) (hs:EffAt ops k M (Instr.makeSlice t (.int .i64 n) (.int .i64 n)))
  (p:Q4 P t e sz bytes=true) (q:(P.info? e).bind (·.zero)=some z) (s:f x0=z.cells.toList) (u:mkI bytes n x0=some l3) (hM:∀b,NextM ops k M (.slice (some ⟨b,0,none⟩) l3.length l3.length) (M' b))
  (next:∀b w' a',Fr N ds (M' b) a'->St w0 (arr e sz f (some ⟨b,0,none⟩) l3.length l3.length l3::H) w'->K a' w'):SK P r ops k K a w:=by
 obtain ⟨h0,rfl,hb,v⟩:=A1n u;obtain ⟨i,z',ht,hi,g,h1,rfl,x,_⟩:=T4 p;have y:z'=z:=by rw [hi] at q;simp [g] at q;exact q
 subst y;have hn:n=(n.toNat:Int):=om
 rw [hn] at hs;obtain ⟨w',hr,l,o⟩:=run_make_full (P:=P) w 0 t e i z' sz ht hi g h1 .i64 .i64 n.toNat hb v (Nat.zero_le _);have hx:Ext w w':=⟨o.os,o.tape,o.output,o.size,λj hj=>o.block j hj sm⟩;have c:(List.replicate n.toNat x0).length=n.toNat:=List.length_replicate;refine A8r hF d hs hr (by have:=hM w.heap.size;rw [c] at this;exact this) ?_;intro a' b0;refine next _ w' a' b0 (hS.push hx ⟨rfl,?_⟩ (λb hb=>by simp [Go.Eng.arr,Value.ownBlock] at hb;omega))
 rw [c];have e1:(List.replicate n.toNat x0).flatMap f=(madeCells z'.cells (n.toNat*sz)).toList:=by
  rw [←x,A1j,←s];generalize n.toNat=m
  induction m with
  | zero=>rfl
  | succ m ih=>simp [List.replicate_succ,ih]
 rw [e1];exact l
theorem A4s (b:∀x,(f x).length=sz) {x':α} {us:List Value} (hj:j+us.length<=sz):∀(l:List α) (i:Nat) (x:α),l[i]? = some x->f x'=(f x).take j++us++(f x).drop (j+us.length) ->
  (l.flatMap f).take (i*sz+j)++us++(l.flatMap f).drop (i*sz+j+us.length)=(l.set i x').flatMap f:=by
 intro l
 induction l with
 | nil=>intro i x h;simp at h
 | cons y l ih =>
  intro i x h c
  cases i with
  | zero =>
   simp at h;subst h;have d:=b y;simp only [Nat.zero_mul,Nat.zero_add,List.flatMap_cons,List.set_cons_zero,c];rw [List.take_append_of_le_length om,List.drop_append_of_le_length om];simp [List.append_assoc]
  | succ i =>
   simp at h;have:=ih i x h c;have d:=b y;have e1:(i+1)*sz+j=(f y).length+(i*sz+j):=by rw [d,Nat.add_mul];omega
   simp only [List.flatMap_cons,List.set_cons_succ];rw [e1,List.take_length_add_append,Nat.add_assoc,List.drop_length_add_append,←this];simp [List.append_assoc]
theorem A5m {cur us:List β} {p T:Nat} (b:p+us.length<=T) (c:T<=cur.length):(cur.take p++us++cur.drop (p+us.length)).take T=(cur.take T).take p++us++(cur.take T).drop (p+us.length):=by
 have e1:(cur.take p).length=p:=by rw [List.length_take];omega
 have e2:(cur.take p++us).length=p+us.length:=by rw [List.length_append,e1]
 rw [List.take_append,List.take_append,e1,e2,List.take_take,List.take_take,Nat.min_eq_right om,Nat.min_eq_left om,List.take_of_length_le (l:=us) om,List.drop_take]
theorem Rl {i:Int} (h:Ka l i x=some l3):0<=i/\i<l.length/\l3=l.set i.toNat x:=by
 unfold Ka at h
 split at h
 ·cases h;rename_i h;exact ⟨h.1,h.2,rfl⟩
 ·cases h
theorem A6v (M':List (Nat×Value)) (i:Nat) {t:Nat} {j:Int} (off:Nat) (u x:α) (v:Value) (hF:Fr N ds M a) (hS:St w0 H w) (hi:H[i]? = some (arr e sz f ad l.length cap l)) (o:Bg ops N=true)
  (hs:StoreAt ops k M t (.pointer (some ((Ck ad j sz).add off))) v) (hf:∀x,(f x).length=sz) (hu:Av l j=some u) (hx:f x=(f u).take off++v.cells.toList++(f u).drop (off+v.cells.toList.length)) (p:Nat.ble (off+v.cells.toList.length) sz=true)
  (b4:pureSem P (sizeOf t)=some v.cells.size) (s:v.cells.toList.all Value.oneCell'=true) (b5:Ka l j x=some l3) (hM:NextM ops k M undef M')
  (next:∀w' a',Fr N ds M' a'->l.length=l3.length->St w0 (H.set i (arr e sz f ad l.length cap l3)) w'->K a' w'):SK P r ops k K a w:=by
 have c:=hS.holds _ (List.mem_of_getElem? hi);obtain ⟨h0,c9,b6⟩:=P2 hu;obtain ⟨_,_,rfl⟩:=Rl b5;have d:=Nat.le_of_ble_eq_true p;rcases c.2.2 with ⟨h',hz⟩|⟨g,cap',cur,h',m,hg,y,b7,d1,n⟩
 ·have:l.length=0:=hz;omega
 ·simp only [Value.slice.injEq,true_and] at h';obtain ⟨rfl,rfl⟩:=h';have d2:j.toNat<l.length:=om
  have c3:j.toNat*sz+off+v.cells.toList.length<=l.length*sz:=by
   have:=Nat.mul_le_mul_right sz (show j.toNat+1<=l.length by omega);rw [Nat.add_mul] at this;omega
  have c4:l.length*sz<=cap*sz:=Nat.mul_le_mul_right sz y;have z:(Ck (some ⟨g,0,none⟩) j sz).add off=⟨g,j.toNat*sz+off,none⟩:=by
   unfold Ck;rw [Vt];unfold Addr.add
   split
   ·rename_i h;simp [h]
   ·simp
  rw [z] at hs;have b0:=Bl _ _ b4 w;have b1:=run_storeCells_at P g (j.toNat*sz+off) e v.cells.toList 0 cur w hg om (λu hu=>List.all_eq_true.1 s u hu);simp only [Nat.add_zero] at b1;have b2:=A4s (f:=f) hf (x':=x) (us:=v.cells.toList) (j:=off) d l j.toNat u b6 hx;have b:l.length=(l.set j.toNat x).length:=by simp
  refine A36 hF o hs (w':=w.setRow g (cur.toList.take (j.toNat*sz+off)++v.cells.toList++cur.toList.drop (j.toNat*sz+off+v.cells.toList.length)).toArray) ?_ hM ?_
  ·simp [storeVar,b0,b1]
  ·intro a' b8;refine next _ a' b8 b (hS.upd hi rfl rfl rfl (by simp [World.setRow]) (λq _ hq=>setRow_other w g q _ (λe=>hq (by simp [Go.Eng.arr,Value.ownBlock,e]))) ⟨b.symm,?_,.inr ⟨g,cap,_,rfl,m,setRow_heap w g cur _ e _ hg,y,b7,?_,?_⟩⟩ (λq hq=>.inl hq))
   ·rw [←b2];have h1:=c.2.1;simp only [List.length_append,List.length_take,List.length_drop] at h1 ⊢;omega
   ·have:cur.toList.length=cur.size:=by simp
    simp only [List.size_toArray,List.length_append,List.length_take,List.length_drop];omega
   ·rw [←b2,←n];have:cur.toList.length=cur.size:=by simp
    exact A5m om om
end
def lastW (ops:Array Oper):List Nat->Nat->Option Nat
 | [],_=>none
 | j::l,t=>match lastW ops l t with|some q=>some q|none=>bif (match dstAt ops j with|some d=>Nat.beq d t|none=>false) then some j else none
def B6n (P:Program) (r:Option Nat) (ops:Array Oper) (D:World->Prop) (i:Nat) (a:Act) (v:Value):Prop :=
 ∃o,ops[i]? = some o/\∀a' w',(∀t∈o.looksAt ops,a'.tmps.getD t undef=a.tmps.getD t undef)->D w'->OpG P r ops o a' w' (λv' w''=>v'=v/\w''=w')
def WRun (P:Program) (r:Option Nat) (ops:Array Oper) (D:World->Prop) (eff:List Nat) (K:Act->World->Prop):List Nat->Act->World->Prop
 | [],a,w=>K a w
 | i::l,a,w=>bif eff.contains i then SK P r ops i (λa' w'=>D w'/\WRun P r ops D eff K l a' w') a w else ∃v,B6n P r ops D i a v/\WRun P r ops D eff K l (a.put (dstAt ops i) v) w
def Y3 (ops:Array Oper):List Nat->List Nat->Bool
 | _,[]=>true
 | pre,i::l=>(match ops[i]? with|some o=>(o.looksAt ops).all λt=>lastW ops pre t==Nt ops i t|none=>false)&&Y3 ops (pre++[i]) l
def U5:List Nat->Bool
 | []=>true
 | i::l=>!l.contains i&&U5 l
section
theorem W9:∀{l:List Nat},U5 l=true->l.Nodup:=by
 intro l
 induction l with
 | nil=>intro _;exact List.nodup_nil
 | cons i l ih =>
  intro h;rw [U5,Bool.and_eq_true] at h;exact List.nodup_cons.2 ⟨by simpa using h.1,ih h.2⟩
theorem X2:∀{l:List Nat} {t j:Nat},lastW ops l t=some j->j∈l/\dstAt ops j=some t:=by
 intro l
 induction l with
 | nil=>intro t j h;simp [lastW] at h
 | cons i l ih =>
  intro t j h;rw [lastW] at h
  cases b:lastW ops l t with
  | some q=>rw [b] at h;cases h;exact ⟨List.mem_cons_of_mem _ (ih b).1,(ih b).2⟩
  | none =>
   rw [b] at h;simp only at h
   cases hd:dstAt ops i with
   | none=>rw [hd] at h;simp at h
   | some d =>
    rw [hd] at h;simp only at h
    cases hb:Nat.beq d t with
    | false=>rw [hb] at h;simp at h
    | true=>rw [hb] at h;simp at h;rw [Nat.beq_eq] at hb;subst hb;subst h;exact ⟨List.mem_cons_self ..,hd⟩
theorem A6i {l:List Nat} {i t:Nat}:lastW ops (l++[i]) t=if dstAt ops i=some t then some i else lastW ops l t:=by
 induction l with
 | nil =>
  simp only [List.nil_append,lastW]
  cases hd:dstAt ops i with
  | none=>simp
  | some d =>
   by_cases h:d=t
   ·subst h;simp
   ·have:Nat.beq d t=false:=by rw [←Bool.not_eq_true,Nat.beq_eq];exact h
    simp [this,h]
 | cons j l ih =>
  simp only [List.cons_append,lastW,ih]
  by_cases h:dstAt ops i=some t
  ·rw [if_pos h];simp [h]
  ·rw [if_neg h,if_neg h]
theorem getElem?_of_getD {x y:Array Value} {t:Nat} (c:x.size=y.size) (h:x.getD t undef=y.getD t undef):x[t]? = y[t]?:=by
 rw [Array.getD_eq_getD_getElem?,Array.getD_eq_getD_getElem?] at h
 by_cases b:t<x.size
 ·rw [Array.getElem?_eq_getElem b,Array.getElem?_eq_getElem om] at h ⊢
  simpa using h
 ·rw [Array.getElem?_eq_none om,Array.getElem?_eq_none om]
theorem Za (c:a'.tmps.size=a.tmps.size) (h:∀t∈o.looksAt ops,a'.tmps.getD t undef=a.tmps.getD t undef):Region.wanted o (yielded ops a'.tmps)=Region.wanted o (yielded ops a.tmps):=by
 unfold Region.wanted
 cases d:o.guard with
 | none=>rfl
 | some jw =>
  obtain ⟨j,want⟩:=jw;simp only;have:yielded ops a'.tmps j=yielded ops a.tmps j:=by
   unfold yielded
   cases hd:(ops[j]?).bind (·.dst) with
   | none=>simp
   | some g =>
    have b:g∈o.looksAt ops:=by
     unfold Oper.looksAt;rw [d];refine List.mem_append_right _ ?_;simp [hd]
    have:=getElem?_of_getD c (h g b);simp [this]
  rw [this]
theorem A09 (c:plainOp o.op=true) (h:∀t∈o.looksAt ops,a'.tmps.getD t undef=a.tmps.getD t undef):o.semAt r a'.eval=o.semAt r a.eval:=by
 rw [Qi c,Qi c];refine execOp_congr o (λcs b d=>by rw [d] at c;simp [plainOp] at c) ?_;intro x e
 cases x with
 | tmp t=>exact h t (List.mem_append_left _ (List.mem_filterMap.2 ⟨.tmp t,by simpa using e,rfl⟩))
 | const v=>rfl
 | global g=>rfl
 | func f=>rfl
theorem A8g {R:Value->World->Prop} (b:plainOp o.op=true) (c:a'.tmps.size=a.tmps.size) (h:∀t∈o.looksAt ops,a'.tmps.getD t undef=a.tmps.getD t undef) (d:OpG P r ops o a w R):OpG P r ops o a' w R:=by
 unfold OpG OpR at *;rw [Za c h,A09 b h];exact d
structure FIs (ops:Array Oper) (N:Nat) (a0:Act) (vals:Nat->Value) (l:List Nat) (b:Act):Prop where
 size:b.tmps.size=N
 dfs:b.defers=a0.defers
 slot:∀t,b.tmps.getD t undef=(match lastW ops l t with|some j=>vals j|none=>a0.tmps.getD t undef)
theorem FIs.put {a0 b:Act} {vals:Nat->Value} {l:List Nat} {i:Nat} (h:FIs ops N a0 vals l b) (c:Bg ops N=true) (hi:i<ops.size) (hn:i∉l):FIs ops N a0 (Uo vals i v) (l++[i]) (b.put (dstAt ops i) v):=by
 refine ⟨by rw [Uj];exact h.size,by rw [Rj];exact h.dfs,λt=>?_⟩;rw [A6i]
 by_cases hd:dstAt ops i=some t
 ·rw [if_pos hd,hd];have:t<b.tmps.size:=by
   rw [h.size];exact Re c (Array.getElem?_eq_getElem hi) (by simpa [dstAt,Array.getElem?_eq_getElem hi] using hd)
  rw [Wj this];simp [Uo]
 ·rw [if_neg hd,Rk hd,h.slot t]
  cases d:lastW ops l t with
  | none=>rfl
  | some j =>
   have:j≠i:=λe=>hn (e▸(X2 d).1);simp [Uo,this]
end
def evalL (P:Program) (ops:Array Oper):List Nat->List (Nat×En)->List Value->Option (List (Nat×En)×List Ob)
 | [],E,vs=>match vs with|[]=>some (E,[])|_=>none
 | i::l,E,vs =>
  match ops[i]? with
  | none=>none
  | some o =>
   match Zf P ops E o vs with
   | none=>none
   | some (e,ob,vs') =>
    bif Wv E o.dst e then
     match evalL P ops l (A3y E o.dst e) vs' with
     | none=>none
     | some (E',obs)=>some (E',ob++obs)
    else none
structure EndsL (P:Program) (ops:Array Oper) (rs:List Nat) (M M':List (Nat×Value)) (obs:List Ob):Prop where
 eq:((evalL P ops rs (ofM M) (obs.map Ob.v)).map λx=>(M'.map (λp=>lookE x.1 p.1),x.2))=some (M'.map (λp=>some ⟨[],p.2⟩),obs)
section
theorem A8s (j:Bg ops N=true) :∀(rs:List Nat) (E E':List (Nat×En)) (vs:List Value) (obs:List Ob) (a:Act),evalL P ops rs E vs=some (E',obs)->A38 E->Obs P (λa b=>b=a) D obs->rs.all (λi=>!eff.contains i)=true ->
  a.tmps.size=N->EnvOk (toA E) a w->(∀a',a'.tmps.size=N->a'.defers=a.defers->EnvOk (toA E') a' w->WRun P r ops D eff K rest a' w)->WRun P r ops D eff K (rs++rest) a w:=by
 intro rs
 induction rs with
 | nil =>
  intro E E' vs obs a h _ _ _ m k next
  cases vs with
  | nil=>simp [evalL] at h;rw [h.1] at k;exact next a m rfl k
  | cons=>simp [evalL] at h
 | cons i rs ih =>
  intro E E' vs obs a h hc c d m k next
  simp only [evalL] at h
  cases ho:ops[i]? with
  | none=>rw [ho] at h;simp at h
  | some o =>
   rw [ho] at h;simp only at h
   cases f:Zf P ops E o vs with
   | none=>rw [f] at h;simp at h
   | some x =>
    obtain ⟨e,ob,vs'⟩:=x;rw [f] at h;simp only at h
    cases n:Wv E o.dst e with
    | false=>rw [n] at h;simp at h
    | true =>
     rw [n] at h;simp only [cond_true] at h
     cases hr:evalL P ops rs (A3y E o.dst e) vs' with
     | none=>rw [hr] at h;simp at h
     | some y =>
      obtain ⟨E1,obs1⟩:=y;rw [hr] at h;simp at h;obtain ⟨rfl,rfl⟩:=h;rw [Obs.append] at c;obtain ⟨h1,h2⟩:=A02 (r:=r) Ws hc f c.1;rw [List.all_cons,Bool.and_eq_true] at d;have p:eff.contains i=false:=by simpa using d.1
      have hd:dstAt ops i=o.dst:=by simp [dstAt,ho]
      rw [List.cons_append,WRun,p];simp only [cond_false];refine ⟨e.val,⟨o,ho,λa' w' hs q=>?_⟩,?_⟩
      ·refine (h2 a' w' q (λt s ψ g=>?_)).mono (λv w'' hh=>⟨hh.2,hh.1⟩);rw [hs t s];have:=k t ψ g;rw [Qd] at g
       cases l:lookE E t with
       | none=>rw [l] at g;simp at g
       | some e'=>rw [l] at g;simp at g;subst g;exact this
      ·rw [hd];refine ih _ _ _ _ _ hr (A7g hc h1 n) c.2 d.2 (by rw [Uj];exact m) ?_ (λa' u hd' z=>next a' u (hd'.trans (Rj _ _ _)) z);rw [A8c];exact k.push (T:=λa b=>b=a) (Wo _ _) rfl (λt s=>m▸Re j ho s) rfl
theorem C0f (rs:List Nat) (M':List (Nat×Value)) (e:Fr N ds M a) (d:Bg ops N=true) (f:rs.all (λi=>!eff.contains i)=true) (g:Obs P (λa b=>b=a) D obs) (h:EndsL P ops rs M M' obs)
  (next:∀a',Fr N ds M' a'->WRun P r ops D eff K rest a' w):WRun P r ops D eff K (rs++rest) a w:=by
 have h:=h.eq
 cases c:evalL P ops rs (ofM M) (obs.map Ob.v) with
 | none=>rw [c] at h;simp at h
 | some x =>
  obtain ⟨E',obs'⟩:=x;rw [c] at h;simp only [Option.map_some,Option.some.injEq,Prod.mk.injEq] at h;obtain ⟨k,rfl⟩:=h;refine A8s d rs _ _ _ _ a c (Yd M) g f e.size (Ue e w) ?_;intro a' l hd m;refine next a' ⟨l,hd.trans e.defers,λp n=>?_⟩
  have j:lookE E' p.1=some ⟨[],p.2⟩:=List.map_inj_left.1 k p n;have:=m p.1 (λv _=>v=(⟨[],p.2⟩:En).val) (by rw [Qd,j];rfl)
  simpa [En.val,Br] using this
theorem WRun.fin (h:K a w):WRun P r ops D eff K [] a w:=h
end
def fK (k:IntKind) (x:Int):List Value:=[.int k x]
theorem Ut (k:IntKind) (x:Int):(fK k x).length=1:=rfl
def B0z (x:ByteArray):List Value:=[.string x]
theorem A1a (x:ByteArray):(B0z x).length=1:=rfl
section
variable {cs:List Cd} {t:Nat} {l2:List α} {c:List γ} {g:γ->List Value}
theorem Wu (h:Sx l lo hi=some l2):∃a b:Nat,lo=a/\hi=b/\a<=b/\b<=l.length/\l2=(l.drop a).take (b-a)/\l2.length=b-a:=by
 unfold Sx at h
 split at h
 ·rename_i c
  cases h
  refine ⟨lo.toNat,hi.toNat,om,om,om,om,rfl,?_⟩;simp;omega
 ·cases h
theorem Arr.cutD (h:Arr w sz f ad n cap l) (c:∀x,(f x).length=sz) (d:Sx l lo hi=some l2):Arr w sz f (Gj ad cap lo.toNat sz) l2.length (cap-lo.toNat) l2:=by
 obtain ⟨a,b,rfl,rfl,e,j,rfl,g⟩:=Wu d;have hn:=h.len;have i:=h.le;rw [g,Int.toNat_natCast];exact h.cut c e om om (Nat.le_refl _)
theorem B27 (f:R6 P t sz=true) (_h:Arr w sz g ad l.length cap c) (i:Br cs=true->Sx l lo (l.length:Int)=some l2) :
  Ob.ok P T D (.run cs (Instr.sliceAt t (.slice ad l.length cap) (some (.int .i64 lo)) none none) (.slice (Gj ad cap lo.toNat sz) l2.length (cap-lo.toNat))):=by
 intro e;obtain ⟨a,b,rfl,hb,k,m,rfl,j⟩:=Wu (i e);have d:l.length=b:=om
 rw [j,Int.toNat_natCast,←d];exact B2e (P:=P) (T:=T) (D:=D) (cs:=cs) f (λ_=>by omega) e
theorem B82 (f:R6 P t sz=true) (h:Arr w sz g ad l.length cap c) (i:Br cs=true->Sx l 0 hi=some l2) :
  Ob.ok P T D (.run cs (Instr.sliceAt t (.slice ad l.length cap) none (some (.int .i64 hi)) none) (.slice (Gj ad cap (0:Int).toNat sz) l2.length (cap-(0:Int).toNat))):=by
 intro e;obtain ⟨a,b,m,rfl,o,p,rfl,j⟩:=Wu (i e);have d:a=0:=om
 subst d;have k:=h.le;rw [j];have:=B2d (P:=P) (T:=T) (D:=D) (cs:=cs) (n:=l.length) (cap:=cap) (ad:=ad) (hi:=b) f (λ_=>by omega) e
 simpa using this
end
abbrev Rel (α:Type):=Frz->List Value->α->Prop
def Rel.Mono {α:Type} (R:Rel α):Prop:=∀(μ ν:Frz) (cs:List Value) (x:α),μ.le ν->R μ cs x->R ν cs x
def fN (sz:Nat) (cs:List Value):List Value:=(cs++List.replicate sz undef).take sz
theorem Ba (sz:Nat) (cs:List Value):(fN sz cs).length=sz:=by simp [fN]
def Rel.One {α:Type} (sz:Nat) (R:Rel α):Prop:=∀(μ:Frz) (cs:List Value) (x:α),R μ cs x->(fN sz cs).all Value.oneCell'=true
def RpF {α:Type} (f:α->List Value):Rel α:=λ_ cs x=>cs=f x
theorem RpF.mono:(RpF f).Mono:=λ_ _ _ _ _ h=>h
def ArrQ {α:Type} (μ:Frz) (sz:Nat) (R:Rel α) (ad:Option Addr) (cap:Nat) (css:List (List Value)) (l:List α):Prop:=ArrM μ sz (fN sz) ad cap css/\All2 (R μ) css l
def PtM {α:Type} (μ:Frz) (T:TypeId) (R:Rel α) (pa:Option Addr) (x:Option α):Prop :=
 (pa=none/\x=none)\/∃b cs d,pa=some ⟨b,0,none⟩/\x=some d/\BlkM μ b T cs.toArray/\R μ cs d
section
variable {R:Rel α} {css css':List (List Value)}
theorem All2.len {R:α->β->Prop} (h:All2 R xs ys):xs.length=ys.length:=by
 induction h with
 | nil=>rfl
 | cons _ _ ih=>simp [ih]
theorem All2.imp {R:α->β->Prop} (h:All2 R xs ys) (hi:∀x y,R x y->S x y):All2 S xs ys:=by
 induction h with
 | nil=>exact .nil
 | cons h _ ih=>exact .cons (hi _ _ h) ih
theorem All2.app {R:α->β->Prop} {xs':List α} {ys':List β} (h:All2 R xs ys) (h':All2 R xs' ys'):All2 R (xs++xs') (ys++ys'):=by
 induction h with
 | nil=>exact h'
 | cons h _ ih=>exact .cons h ih
theorem All2.take {R:α->β->Prop} (h:All2 R xs ys):∀k,All2 R (xs.take k) (ys.take k):=by
 induction h with
 | nil=>intro k;simp;exact .nil
 | cons h _ ih=>intro k;cases k with
  | zero=>exact .nil
  | succ k=>exact .cons h (ih k)
theorem All2.drop {R:α->β->Prop} (h:All2 R xs ys):∀k,All2 R (xs.drop k) (ys.drop k):=by
 induction h with
 | nil=>intro k;simp;exact .nil
 | cons h b ih=>intro k;cases k with
  | zero=>exact .cons h b
  | succ k=>exact ih k
theorem All2.set {R:α->β->Prop} {y:β} (h:All2 R xs ys) (b:R x y):∀k,All2 R (xs.set k x) (ys.set k y):=by
 induction h with
 | nil=>intro k;simp;exact .nil
 | cons h c ih=>intro k;cases k with
  | zero=>exact .cons b c
  | succ k=>exact .cons h (ih k)
theorem All2.rep {R:α->β->Prop} {y:β} (h:R x y) (n:Nat):All2 R (List.replicate n x) (List.replicate n y):=by
 induction n with
 | zero=>exact .nil
 | succ n ih=>exact .cons h ih
theorem All2.mono (c:R.Mono) (b:μ.le ν) (h:All2 (R μ) css l):All2 (R ν) css l:=h.imp λ_ _=>c _ _ _ _ b
theorem ArrQ.mono (h:ArrQ μ sz R ad cap css l) (c:R.Mono) (b:μ.le ν):ArrQ ν sz R ad cap css l:=⟨h.1.mono b,h.2.mono c b⟩
theorem ArrQ.at (h:ArrQ μ sz R ad cap css l) (b:FrzAt μ w):Arr w sz (fN sz) ad l.length cap css:=by
 have:=h.1 w b
 rwa [h.2.len] at this
theorem ArrQ.nil:ArrQ μ sz R none 0 [] ([]:List α):=⟨ArrM.nil,.nil⟩
theorem PtM.mono {T:TypeId} {pa:Option Addr} {x:Option α} (h:PtM μ T R pa x) (e:R.Mono) (c:μ.le ν):PtM ν T R pa x:=by
 rcases h with h|⟨b,cs,d,f,g,i,j⟩
 ·exact .inl h
 ·exact .inr ⟨b,cs,d,f,g,i.mono c,e _ _ _ _ c j⟩
theorem PtM.some {T:TypeId} {pa:Option Addr} {x:Option α} (h:PtM μ T R pa x) (c:x=.some d):∃b cs,pa=Option.some ⟨b,0,none⟩/\BlkM μ b T cs.toArray/\R μ cs d:=by
 rcases h with ⟨_,rfl⟩|⟨b,cs,d',f,e,g,i⟩
 ·cases c
 ·rw [c] at e;cases e;exact ⟨b,cs,f,g,i⟩
theorem PtM.mk {T:TypeId} {cs:List Value} (c:BlkM μ b T cs.toArray) (e:R μ cs d):PtM μ T R (Option.some ⟨b,0,none⟩) (Option.some d):=.inr ⟨b,cs,d,rfl,rfl,c,e⟩
theorem Blk.toM {t:TypeId} (h:Blk w b t cs):BlkM (C3 w) b t cs:=λ_w' c=>c b _ h
theorem BlkM.blk {t:TypeId} (h:BlkM μ b t cs) (c:FrzAt μ w):Blk w b t cs:=h w c
theorem ArrQ.of_arr {e:Nat} (h:∀w,FrzAt ν w->(arr e sz (fN sz) ad l.length cap css).holds w) (c:All2 (R μ) css l) (d:R.Mono) (b:μ.le ν):ArrQ ν sz R ad cap css l:=by
 refine ⟨?_,c.mono d b⟩;have f:=c.len;intro w g;have:=h w g;rw [←f] at this;exact ⟨rfl,Sl.of_own this.2⟩
theorem ArrQ.one (h:All2 (R μ) css l) (c:R.One sz):∀x∈css,(fN sz x).all Value.oneCell'=true:=by
 induction h with
 | nil=>intro x b;simp at b
 | cons h _ ih =>
   intro x b;rcases List.mem_cons.1 b with rfl|b
   ·exact c _ _ _ h
   ·exact ih x b
theorem B0r {xs:List γ} {ys ys2:List α} {S:γ->α->Prop} (h:All2 S xs ys) (b:Sx ys lo hi=Option.some ys2):∃xs2,Sx xs lo hi=Option.some xs2/\All2 S xs2 ys2:=by
 unfold Sx at b ⊢
 split at b
 ·rename_i c
  cases b
  rw [h.len,if_pos c];exact ⟨_,rfl,(h.drop _).take _⟩
 ·cases b
end
section
variable {cs:List Cd} {t:Nat}
theorem Wa {i:Int} (h:Arr w sz f ad n cap l) (b:R6 P t sz=true) (c:Br cs=true->Av l i=some u) :
  Ob.ok P T D (.run cs (Instr.indexAt t (.slice ad n cap) (.int .i64 i)) (.pointer (some (Ck ad i sz)))) :=
 C05 h b λd=>by have:=P2 (c d);have:=h.len;exact ⟨om,om⟩
theorem A07 {i:Int} (j:Nat) (c:∀x,(f x).length=sz) (h:∀w',D w'->Arr w' sz f ad n cap l) (d:Tc P t=true) (g:Br cs=true->Av l i=some u) (hj:(f u)[j]? = some v) :
  Ob.ok P T D (.run cs (Instr.loadAt t (.pointer (some ((Ck ad i sz).add j)))) v):=by
 intro k w' e;obtain ⟨h0,hi,m⟩:=P2 (g k);have o:=(h w' e).len;obtain ⟨_,_,b⟩:=(h w' e).cells c h0 om u;rw [A7o m] at b;exact Zk d (b j _ hj)
theorem B83 {i:Int} {us:List Value} (j:Nat) (k:∀x,(f x).length=sz) (h:∀w',D w'->Arr w' sz f ad n cap l) (o:Sw P t=some m) (p:Br cs=true->Av l i=some u) (d:us.length=m/\((f u).drop j).take m=us) :
  Ob.ok P T D (.run cs (Instr.loadAt t (.pointer (some ((Ck ad i sz).add j)))) (.agg us.toArray)):=by
 intro r w' e;obtain ⟨h0,hi,c⟩:=P2 (p r);have s:=(h w' e).len;obtain ⟨_,_,g⟩:=(h w' e).cells k h0 om u;rw [A7o c] at g;refine Zl (by rw [d.1];exact o) (λq u' b=>?_);rw [Vt];refine g (j+q) u' ?_;rw [←d.2,List.getElem?_take] at b
 split at b
 ·rwa [List.getElem?_drop] at b
 ·cases b
end
section
variable {e:Nat} {c':List α} {l l' l3:List β}
theorem A10 (M':Option Addr->Nat->List (Nat×Value)) (i:Nat) {t ty scap:Nat} (hF:Fr N ds M a) (z:St w0 H w) (hi:H[i]? = some (arr e sz f ad l.length cap c)) (n:Bg ops N=true)
  (s:EffAt ops k M (Builtin.append_ #[t,t] ty #[.slice ad l.length cap,.slice sad l'.length scap])) (u:Q4 P t e sz bytes=true) (b:Arr w sz f sad l'.length scap c') (h1:∀x∈c',(f x).all Value.oneCell'=true) (v:apd bytes l l'=some l3)
  (hM:∀ad2 cap2,NextM ops k M (.slice ad2 l3.length cap2) (M' ad2 cap2))
  (next:∀ad2 cap2 w' a',Fr N ds (M' ad2 cap2) a'->St w0 (H.set i (arr e sz f ad2 l3.length cap2 (c++c'))) w'->K a' w'):SK P r ops k K a w:=by
 obtain ⟨rfl,hb,m⟩:=Pg v;have o:=z.holds _ (List.mem_of_getElem? hi);have p:c.length=l.length:=o.1;have g:c'.length=l'.length:=b.len;have j:(l++l').length=l.length+l'.length:=List.length_append;have d:(c++c').length=l.length+l'.length:=by rw [List.length_append,p,g]
 rw [←p] at hi s hb m;rw [←g] at b s hb m;refine B9g (l:=c) (l':=c') (l3:=c++c') M' i hF z hi n s u b h1 ?_ ?_ ?_
 ·unfold apd;rw [if_pos ⟨hb,m⟩]
 ·intro ad2 cap2;have:=hM ad2 cap2;rwa [j,←d] at this
 ·intro ad2 cap2 w' a' y q;rw [d,←j] at q;exact next ad2 cap2 w' a' y q
theorem W7 (M':Nat->List (Nat×Value)) {t len:Nat} (parts:Array (Nat×Value)) (cs:Array Value) (c:List α) (l:List β) (m:Fr N ds M a) (n:St w0 H w) (d:Bg ops N=true) (o:EffAt ops k M (Instr.buildSlice t len parts))
  (hb:Rc P t len parts=some (e,cs)) (p:∀x,(f x).length=sz) (i:c.length=len) (g:l.length=len) (q:c.flatMap f=cs.toList) (hn:Nat.ble len 16777216=true) (s:∀b,NextM ops k M (.slice (some ⟨b,0,none⟩) len len) (M' b))
  (next:∀b w' a',Fr N ds (M' b) a'->St w0 (arr e sz f (some ⟨b,0,none⟩) l.length len c::H) w'->K a' w'):SK P r ops k K a w:=by
 refine A99 M' parts cs c m n d o hb p i q hn s ?_;intro b w' a' u j;rw [i] at j;exact next b w' a' u (by rw [g];exact j)
end
def A0d (ops:Array Oper) (e i:Nat):Bool:=((A1m ops.toList []).getD i 0).testBit e
def Ci (ops:Array Oper) (m:Nat) (eff done:List Nat):List Nat :=
 (List.range m).filter λi=>!eff.contains i&&(eff.all λe=>!A0d ops e i||done.contains e)&&(match done.getLast? with|some e=>A0d ops e i|none=>true)
def Vj (ops:Array Oper) (eff done:List Nat):List Nat:=eff.filter λe=>!done.contains e&&eff.all λd=>!A0d ops d e||done.contains d
def WT (P:Program) (r:Option Nat) (ops:Array Oper) (D:World->Prop) (m:Nat) (eff:List Nat) (K:Act->World->Prop):Nat->List Nat->Act->World->Prop
 | 0,done,a,w=>WRun P r ops D [] K (Ci ops m eff done) a w
 | n+1,done,a,w=>WRun P r ops D [] (λa w=>∀e∈Vj ops eff done,SK P r ops e (λa' w'=>D w'/\WT P r ops D m eff K n (done++[e]) a' w') a w) (Ci ops m eff done) a w
def SKB (P:Program) (r:Option Nat) (ops:Array Oper) (k:Nat) (B:List PanicEntry->World->Prop) (K:Act->World->Prop) (a:Act) (w:World):Prop :=
 ∃o,ops[k]? = some o/\OpGB P r ops o a w (λv w'=>K (a.put o.dst v) w') B
def WTB (P:Program) (r:Option Nat) (ops:Array Oper) (D:World->Prop) (m:Nat) (eff:List Nat) (B:List PanicEntry->World->Prop) (K:Act->World->Prop):Nat->List Nat->Act->World->Prop
 | 0,done,a,w=>WRun P r ops D [] K (Ci ops m eff done) a w
 | n+1,done,a,w=>WRun P r ops D [] (λa w=>∀e∈Vj ops eff done,SKB P r ops e B (λa' w'=>D w'/\WTB P r ops D m eff B K n (done++[e]) a' w') a w) (Ci ops m eff done) a w
def V0 (ops:Array Oper) (pre:List Nat) (i:Nat):Bool:=match ops[i]? with|some o=>(o.looksAt ops).all λt=>lastW ops pre t==Nt ops i t|none=>false
def Ub (ops:Array Oper) (m:Nat) (eff:List Nat):Nat->List Nat->List Nat->Bool
 | 0,done,pre=>Y3 ops pre (Ci ops m eff done)&&U5 (pre++Ci ops m eff done)&&(List.range m).all (λi=>(pre++Ci ops m eff done).contains i) &&
   ((List.range m).all λj=>match dstAt ops j with|some t=>lastW ops (pre++Ci ops m eff done) t==Nt ops m t|none=>true)
 | n+1,done,pre=>Y3 ops pre (Ci ops m eff done)&&U5 (pre++Ci ops m eff done) &&
   (Vj ops eff done).all λe=>V0 ops (pre++Ci ops m eff done) e&&!(pre++Ci ops m eff done).contains e&&Ub ops m eff n (done++[e]) (pre++Ci ops m eff done++[e])
section
variable {B:List PanicEntry->World->Prop}
theorem SK.toB (h:SK P r ops k K a w):SKB P r ops k B K a w:=by
 obtain ⟨o,ho,h⟩:=h;exact ⟨o,ho,.inl h⟩
theorem A5v {R:Value->World->Prop} (c:plainOp o.op=true) (d:a'.tmps.size=a.tmps.size) (h:∀t∈o.looksAt ops,a'.tmps.getD t undef=a.tmps.getD t undef) (b:OpGB P r ops o a w R B):OpGB P r ops o a' w R B:=by
 rcases b with b|⟨e,f,args,w',g,i⟩
 ·exact .inl (A8g c d h b)
 ·refine .inr ⟨?_,f,args,w',?_,i⟩
  ·rw [←e];exact Za d h
  ·rw [←g,A09 c h]
theorem A31:∀(l k:List Nat),l.Nodup->(∀x∈l,x∈k)->l.length<=k.length:=by
 intro l
 induction l with
 | nil=>intro k _ _;simp
 | cons x l ih =>
  intro k hn d;have f:=d x (List.mem_cons_self ..);have b:=List.nodup_cons.1 hn;have:=ih (k.erase x) b.2 (λy g=>by
   have c:y≠x:=λe=>b.1 (e▸g);exact (List.mem_erase_of_ne c).2 (d y (List.mem_cons_of_mem _ g)))
  rw [List.length_erase_of_mem f] at this;have i:0<k.length:=List.length_pos_of_mem f;simp;omega
theorem A9h {l k:List Nat} (hn:l.Nodup) (c:∀x∈l,x∈k) (e:k.length<=l.length):∀x∈k,x∈l:=by
 intro x d
 by_cases h:x∈l
 ·exact h
 ·have:=A31 (x::l) k (List.nodup_cons.2 ⟨h,hn⟩) (λy b=>by
   rcases List.mem_cons.1 b with rfl|b
   ·exact d
   ·exact c y b)
  simp at this;omega
theorem A2l {e i:Nat} (h:A0d ops e i=true):Anc ops e i:=Wr h
theorem A5n {pre:List Nat} {i:Nat} {l:List Nat} (h:Y3 ops pre (i::l)=true):V0 ops pre i=true/\Y3 ops (pre++[i]) l=true:=by
 rw [Y3,Bool.and_eq_true] at h;exact h
theorem V1 {pre:List Nat} {i:Nat} (h:V0 ops pre i=true) (ho:ops[i]? = some o):∀t∈o.looksAt ops,lastW ops pre t=Nt ops i t:=by
 unfold V0 at h;rw [ho] at h;intro t b
 simpa using List.all_eq_true.1 h t b
theorem Xs {l:List Nat} {i:Nat} {k:List Nat} (h:(l++i::k).Nodup):i∉l:=by
 intro hi;have:=(List.nodup_append.1 h).2.2 i hi i (List.mem_cons_self ..);exact this rfl
def A2j (P:Program) (r:Option Nat) (ops:Array Oper) (D:World->Prop) (a:Act) (vals:Nat->Value) (i:Nat):Prop :=
 ∃o,ops[i]? = some o/\∀a' w',(∀t∈o.looksAt ops,a'.tmps.getD t undef=Rm ops a vals i t)->D w'->OpG P r ops o a' w' (λv' w''=>v'=vals i/\w''=w')
def Told (ops:Array Oper) (l:List Nat):Prop:=∀pre i post,l=pre++i::post->V0 ops pre i=true
theorem Told.snoc {l:List Nat} {i:Nat} (h:Told ops l) (hi:V0 ops l i=true):Told ops (l++[i]):=by
 intro pre j post e;rcases List.eq_nil_or_concat post with rfl|⟨q,x,rfl⟩
 ·have:=List.append_inj' e sm;obtain ⟨e1,e2⟩:=this
  cases e2
  rw [←e1];exact hi
 ·rw [List.concat_eq_append,←List.cons_append,←List.append_assoc] at e;obtain ⟨e1,_⟩:=List.append_inj' e sm;exact h pre j q e1
theorem A1v {l:List Nat} (g:Told ops l) {vals vals':Nat->Value} (d:∀i∈l,vals' i=vals i) {i:Nat} (hi:i∈l) (h:A2j P r ops D a vals i):A2j P r ops D a vals' i:=by
 obtain ⟨o,ho,h⟩:=h;obtain ⟨pre,post,e⟩:=List.append_of_mem hi;refine ⟨o,ho,λa' w' c k=>?_⟩;rw [d i hi];refine h a' w' (λt b=>?_) k;rw [c t b];unfold Rm;have f:=V1 (g pre i post e) ho t b
 cases c:Nt ops i t with
 | none=>rfl
 | some j =>
  rw [c] at f;exact d j (by rw [e];exact List.mem_append_left _ (X2 f).1)
theorem A7c {l0:List Nat} (f:Bg ops N=true) (s:∀i∈l0,i<ops.size):∀(rs pre:List Nat) (vals:Nat->Value) (b:Act),(∀i∈rs,i∈l0)->Y3 ops pre rs=true->(pre++rs).Nodup->Told ops pre ->
  FIs ops N a vals pre b->(∀i∈pre,i∉eff->A2j P r ops D a vals i)->(∀i∈rs,i∉eff)->WRun P r ops D [] K rs b w ->
  ∃vals' b',(∀i∈pre,vals' i=vals i)/\FIs ops N a vals' (pre++rs) b'/\(∀i∈pre++rs,i∉eff->A2j P r ops D a vals' i)/\Told ops (pre++rs)/\K b' w:=by
 intro rs
 induction rs with
 | nil=>intro pre vals b _ _ _ p hb hr _ c;exact ⟨vals,b,λ_ _=>rfl,by simpa using hb,by simpa using hr,by simpa using p,c⟩
 | cons i rs ih =>
  intro pre vals b g k l p hb hr u c;obtain ⟨h1,h2⟩:=A5n k;rw [WRun] at c;simp only [List.contains_nil,cond_false] at c;obtain ⟨v,x,c⟩:=c;have m:=Xs l;have d:∀j∈pre,Uo vals i v j=vals j:=λj hj=>by
   have:j≠i:=λe=>m (e▸hj);simp [Uo,this]
  have y:=hb.put (v:=v) f (s i (g i (List.mem_cons_self ..))) m;have z:=p.snoc h1;obtain ⟨vals',b',k1,k2,k3,k4,k5⟩:=ih (pre++[i]) (Uo vals i v) _ (λj hj=>g j (List.mem_cons_of_mem _ hj)) h2 (by simpa using l) z y (λj hj b0=>by
   rcases List.mem_append.1 hj with hj|hj
   ·exact A1v p d hj (hr j hj b0)
   ·simp at hj;subst hj;obtain ⟨o,ho,b1⟩:=x;refine ⟨o,ho,λa' w' k b2=>?_⟩;have:Uo vals j v j=v:=by simp [Uo]
    rw [this];refine b1 a' w' (λt n=>?_) b2;rw [k t n,hb.slot t];unfold Rm;have hl:=V1 h1 ho t n;rw [hl]
    cases k:Nt ops j t with
    | none=>rfl
    | some q =>
     rw [k] at hl;exact d q (X2 hl).1) (λj hj=>u j (List.mem_cons_of_mem _ hj)) c
  refine ⟨vals',b',λj hj=>?_,by simpa using k2,by simpa using k3,by simpa using k4,k5⟩;rw [k1 j (List.mem_append_left _ hj),d j hj]
theorem Yy (m:Nat) (eff:List Nat) (e7:P.follows .mixedOrders=true) (c8:(Bg ops N&&Te ops m&&Nv ops m&&Kh ops&&Nat.ble m ops.size&&Ub ops m eff eff.length [] []&&eff.all (λe=>Nat.blt e m&&(match ops[e]? with|some o=>plainOp o.op|none=>false))&&U5 eff)=true) (hN:a.tmps.size=N)
  (hB:∀ch a' w,a'.defers=a.defers->B ch w->Q (.panic ch) a' w) (hD:D { w with drawn:=w.drawn+1 }) (h:WTB P r ops D m eff B (λa w=>WI P r ops Q m a w) eff.length [] a { w with drawn:=w.drawn+1 }):WP P r (.region id ops true) Q a w:=by
 simp only [Bool.and_eq_true] at c8;obtain ⟨⟨⟨⟨⟨⟨⟨h1,h2⟩,h3⟩,h4⟩,h5⟩,h6⟩,h7⟩,h8⟩:=c8;have e8:=Nat.le_of_ble_eq_true h5;have b7:∀e∈eff,e<m/\∀o,ops[e]? = some o->plainOp o.op=true:=λe he=>by
  have:=List.all_eq_true.1 h7 e he;rw [Bool.and_eq_true] at this;exact ⟨Nat.blt_eq.mp this.1,λo ho=>by have:=this.2;rw [ho] at this;exact this⟩
 have c9:=W9 h8;have newR:∀done i,i∈Ci ops m eff done->i<m/\i∉eff:=by
  intro done i hi;unfold Ci at hi;have:=List.mem_filter.1 hi;simp only [Bool.and_eq_true] at this;exact ⟨List.mem_range.1 this.1,by simpa using this.2.1.1⟩
 let St:Nat->List Nat->List Nat->(Nat->Value)->Act->World->Prop:=λn done pre vals b w =>
  FIs ops N a vals pre b/\(∀i∈pre,i∉eff->A2j P r ops D a vals i)/\Told ops pre/\pre.Nodup/\(∀i∈pre,i<m)/\(∀e∈eff,e∈pre↔e∈done)/\(∀e∈done,e∈eff)/\done.Nodup/\done.length+n=eff.length /\
  (∀i,i<m->i∉eff->(∀e∈eff,A0d ops e i=true->e∈done)->i∈pre) /\
  (match n with
   | 0=>WI P r ops Q m b w/\∀t,lastW ops pre t=Nt ops m t
   | n+1=>(∀e∈Vj ops eff done,SKB P r ops e B (λa' w'=>D w'/\WTB P r ops D m eff B (λa w=>WI P r ops Q m a w) n (done++[e]) a' w') b w)/\∀e∈Vj ops eff done,V0 ops pre e=true/\e∉pre/\Ub ops m eff n (done++[e]) (pre++[e])=true)
 have enter:∀n done pre vals b w,FIs ops N a vals pre b->(∀i∈pre,i∉eff->A2j P r ops D a vals i)->Told ops pre->(∀i∈pre,i<m)->(∀e∈eff,e∈pre↔e∈done)->(∀e∈done,e∈eff)->done.Nodup->done.length+n=eff.length ->
   (∀i,i<m->i∉eff->(∀e∈eff,A0d ops e i=true->e∈done)->i∈pre++Ci ops m eff done)->Ub ops m eff n done pre=true->WTB P r ops D m eff B (λa w=>WI P r ops Q m a w) n done b w ->
   ∃vals' b',(∀i∈pre,vals' i=vals i)/\St n done (pre++Ci ops m eff done) vals' b' w:=by
  intro n done pre vals b w hb hr f e9 c0 d0 d1 d2 b8 b4 hw;have c2:∀i∈Ci ops m eff done,i∉eff:=λi hi=>(newR done i hi).2;have d3:∀i∈Ci ops m eff done,i<ops.size:=λi hi=>by have:=(newR done i hi).1;omega
  have l:∀i∈pre++Ci ops m eff done,i<m:=λi hi=>by
   rcases List.mem_append.1 hi with hi|hi
   ·exact e9 i hi
   ·exact (newR done i hi).1
  have b9:∀e∈eff,e∈pre++Ci ops m eff done↔e∈done:=λe he=>by
   rw [List.mem_append,c0 e he];exact ⟨λh=>h.elim (λh=>h) (λh=>absurd he (c2 e h)),.inl⟩
  cases n with
  | zero =>
   simp only [Ub,Bool.and_eq_true] at b4;obtain ⟨⟨⟨o1,o2⟩,o3⟩,o4⟩:=b4;have p:=W9 o2;rw [WTB] at hw;obtain ⟨vals',b',k1,k2,k3,k4,k5⟩:=A7c (l0:=Ci ops m eff done) (eff:=eff) h1 d3 _ pre vals b (λ_ h=>h) o1 p f hb hr c2 hw;refine ⟨vals',b',k1,k2,k3,k4,p,l,b9,d0,d1,d2,b8,k5,λt=>?_⟩
   cases hs:Nt ops m t with
   | some j =>
    obtain ⟨f0,q,_⟩:=Tq hs;have:=List.all_eq_true.1 o4 j (List.mem_range.2 f0);rw [q] at this;rw [←hs]
    simpa using this
   | none =>
    cases hl:lastW ops (pre++Ci ops m eff done) t with
    | none=>rfl
    | some j =>
     obtain ⟨s,q⟩:=X2 hl;exact absurd q (Y2 hs j (l j s))
  | succ n =>
   simp only [Ub,Bool.and_eq_true] at b4;obtain ⟨⟨o1,o2⟩,o3⟩:=b4;have p:=W9 o2;rw [WTB] at hw;obtain ⟨vals',b',k1,k2,k3,k4,k5⟩:=A7c (l0:=Ci ops m eff done) (eff:=eff) h1 d3 _ pre vals b (λ_ h=>h) o1 p f hb hr c2 hw;refine ⟨vals',b',k1,k2,k3,k4,p,l,b9,d0,d1,d2,b8,k5,λe he=>?_⟩;have:=List.all_eq_true.1 o3 e he;simp only [Bool.and_eq_true] at this;exact ⟨this.1.1,by simpa using this.1.2,this.2⟩
 let G:(Nat->Bool)->(Nat->Value)->World->Prop:=λS σ w=>∃n done pre vals b,St n done pre vals b w/\D w/\(∀i,S i=true->i∈pre)/\(∀e∈done,S e=true)/\(∀i,S i=true->σ i=vals i)
 refine A41 (B:=B) (N:=N) (m:=m) (G:=G) e7 h1 h2 h3 h4 e8 hB ?_ hN ?_ (λ_=>undef) ?_ ?_
 ·intro S σ a1 w1 i o c3 ho f2 u j6 i6 f3 d5 hG c4;obtain ⟨n,done,pre,vals,b,⟨s1,s2,s3,s4,s5,s6,s7,s8,s9,s10,s11⟩,g1,g2,g3,g4⟩:=hG;have d7:∀t∈o.looksAt ops,∀j,Nt ops i t=some j->S j=true:=by
   intro t f j hj;obtain ⟨g,q,_⟩:=Tq hj;obtain ⟨xo,f4,f5⟩:=Ur q;rcases Xv h2 g c3 f4 ho with f6|hA
   ·exact absurd f ((Oper.apart_spec f6).1 t f5)
   ·exact u j hA
  have z:∀t∈o.looksAt ops,a1.tmps.getD t undef=Rm ops a vals i t:=by
   intro t f;rw [c4 t f];unfold Rm
   cases hl:Nt ops i t with
   | none=>rfl
   | some j=>exact g4 j (d7 t f j hl)
  by_cases c:i∈eff
  ·
   have c5:∀e∈eff,A0d ops e i=true->e∈done:=λe he hA=>(s6 e he).1 (g2 e (u e (A2l hA)));have c6:i∉done:=λhd=>by have:=g3 i hd;rw [f2] at this;cases this
   have d8:i∈Vj ops eff done:=by
    unfold Vj;refine List.mem_filter.2 ⟨c,?_⟩;rw [Bool.and_eq_true];refine ⟨by simpa using c6,List.all_eq_true.2 λd hd=>?_⟩
    cases hA:A0d ops d i with
    | false=>simp
    | true=>simpa using c5 d hd hA
   cases n with
   | zero =>
    exfalso;have hp:done.length=eff.length:=om
    have b0:∀x∈done,x∈eff:=s7;have:i∈done:=by
     exact A9h s8 b0 om i c
    exact c6 this
   | succ n =>
    obtain ⟨c7,f7⟩:=s11;obtain ⟨l1,l2,l3⟩:=f7 i d8;obtain ⟨o',b1,f8⟩:=c7 i d8;rw [ho] at b1
    cases b1
    have d9:=A5v (a':=a1) ((b7 i c).2 o ho) (by rw [f3,s1.size]) (λt f=>by
     rw [z t f,s1.slot t,V1 l1 ho t f];rfl) f8
    refine d9.mono ?_;rintro v w' ⟨f9,hw⟩;have e0:∀j∈pre,Uo vals i v j=vals j:=λj hj=>by
     have:j≠i:=λe=>l2 (e▸hj);simp [Uo,this]
    have g0:=s1.put (v:=v) h1 om l2;have g5:o.dst=dstAt ops i:=by simp [dstAt,ho]
    rw [g5] at hw;obtain ⟨vals',b',k1,k2⟩:=enter n (done++[i]) (pre++[i]) (Uo vals i v) _ w' g0 (λj hj b2=>by
      rcases List.mem_append.1 hj with hj|hj
      ·exact A1v s3 e0 hj (s2 j hj b2)
      ·simp at hj;subst hj;exact absurd c b2) (s3.snoc l1) (λj hj=>by
      rcases List.mem_append.1 hj with hj|hj
      ·exact s5 j hj
      ·simp at hj;subst hj;exact c3) (λe he=>by rw [List.mem_append,List.mem_append,s6 e he]) (λe he=>by
      rcases List.mem_append.1 he with he|he
      ·exact s7 e he
      ·simp at he;subst he;exact c) (List.nodup_append.2 ⟨s8,sm,λx hx y hy=>by simp at hy;subst hy;exact λe=>c6 (e▸hx)⟩) (by simp;omega) (λj hj b2 e3=>by
      by_cases b3:∀e∈eff,A0d ops e j=true->e∈done
      ·exact List.mem_append_left _ (List.mem_append_left _ (s10 j hj b2 b3))
      ·refine List.mem_append_right _ ?_;unfold Ci;refine List.mem_filter.2 ⟨List.mem_range.2 hj,?_⟩;have g6:A0d ops i j=true:=by
        simp only [Classical.not_forall] at b3;obtain ⟨e,he,k,c0⟩:=b3;rcases List.mem_append.1 (e3 e he k) with h'|h'
        ·exact absurd h' c0
        ·simp at h';subst h';exact k
       simp only [Bool.and_eq_true];refine ⟨⟨by simpa using b2,List.all_eq_true.2 λe he=>?_⟩,by simpa using g6⟩
       cases k:A0d ops e j with
       | false=>simp
       | true=>simpa using e3 e he k) l3 hw
    refine ⟨n,done++[i],_,vals',b',k2,f9,λj hj=>?_,λe he=>?_,λj hj=>?_⟩
    ·rcases Bool.or_eq_true _ _▸hj with hj|hj
     ·exact List.mem_append_left _ (List.mem_append_left _ (g2 j hj))
     ·rw [Nat.beq_eq] at hj;subst hj;exact List.mem_append_left _ sm
    ·rcases List.mem_append.1 he with he|he
     ·simp [g3 e he]
     ·simp at he;subst he;simp
    ·rcases Bool.or_eq_true _ _▸hj with hj|hj
     ·have s:=g2 j hj;have g:j≠i:=λe=>l2 (e▸s);rw [k1 j (List.mem_append_left _ s),e0 j s];simp [Uo,g,g4 j hj]
     ·rw [Nat.beq_eq] at hj;subst hj;rw [k1 j sm];simp [Uo]
  ·have e4:i∈pre:=s10 i c3 c (λe he hA=>(s6 e he).1 (g2 e (u e (A2l hA))));obtain ⟨o',b1,hr⟩:=s2 i e4 c;rw [ho] at b1
   cases b1
   refine .inl ((hr a1 w1 z g1).mono ?_);rintro v w' ⟨rfl,rfl⟩;refine ⟨n,done,pre,vals,b,⟨s1,s2,s3,s4,s5,s6,s7,s8,s9,s10,s11⟩,g1,λj hj=>?_,λe he=>by simp [g3 e he],λj hj=>?_⟩
   ·rcases Bool.or_eq_true _ _▸hj with hj|hj
    ·exact g2 j hj
    ·rw [Nat.beq_eq] at hj;subst hj;exact e4
   ·rcases Bool.or_eq_true _ _▸hj with hj|hj
    ·by_cases g:j=i
     ·subst g;simp [Uo]
     ·simp [Uo,g,g4 j hj]
    ·rw [Nat.beq_eq] at hj;subst hj;simp [Uo]
 ·intro S S' σ w1 g7 hG;have:S=S':=funext g7;rw [←this];exact hG
 ·obtain ⟨vals',b',k1,k2⟩:=enter eff.length [] [] (λ_=>undef) a _ ⟨hN,rfl,λt=>by simp [lastW]⟩ (λi hi=>by simp at hi) (λpre i post e=>by simp at e) (λi hi=>by simp at hi) (λe he=>by simp) (λe he=>by simp at he) List.nodup_nil sm (λi hi c hA=>by
    refine List.mem_append_right _ (List.mem_filter.2 ⟨List.mem_range.2 hi,?_⟩);simp only [Bool.and_eq_true];refine ⟨⟨by simpa using c,List.all_eq_true.2 λe he=>?_⟩,rfl⟩
    cases k:A0d ops e i with
    | false=>simp
    | true=>exact absurd (hA e he k) sm) h6 h
  exact ⟨_,_,_,vals',b',k2,hD,λi hi=>by simp at hi,λe he=>by simp at he,λi hi=>by simp at hi⟩
 ·intro a' w' σ g8 d5 hG b6;obtain ⟨n,done,pre,vals,b,⟨s1,s2,s3,s4,s5,s6,s7,s8,s9,s10,s11⟩,g1,g2,g3,g4⟩:=hG;have hn:n=0:=by
   have b0:∀e∈eff,e∈done:=λe he=>(s6 e he).1 (g2 e (Nat.blt_eq.mpr (b7 e he).1));have:=A31 eff done c9 b0;omega
  subst hn;obtain ⟨g9,e5⟩:=s11;have i0:a'=b:=by
   have f:a'.tmps=b.tmps:=by
    refine Array.ext (by rw [g8,s1.size]) (λt i1 i2=>?_);have e1:=b6 t;have e2:=s1.slot t;have i3:Rm ops a σ m t=(match lastW ops pre t with|some j=>vals j|none=>a.tmps.getD t undef):=by
     rw [e5 t];unfold Rm
     cases hs:Nt ops m t with
     | none=>rfl
     | some j=>exact g4 j (Nat.blt_eq.mpr (Tq hs).1)
    replace e1:a'.tmps.getD t undef=b.tmps.getD t undef:=e1.trans (i3.trans e2.symm);rw [Array.getD_eq_getD_getElem?,Array.getD_eq_getD_getElem?,Array.getElem?_eq_getElem i1,Array.getElem?_eq_getElem i2] at e1
    simpa using e1
   cases a';cases b
   simp only at f;subst f;have:=d5.trans s1.dfs.symm;simp only at this;rw [this]
  rw [i0];exact g9
theorem WRun.mono0 (b:∀a w,K a w->K' a w):∀{l:List Nat} {a:Act} {w:World},WRun P r ops D [] K l a w->WRun P r ops D [] K' l a w:=by
 intro l
 induction l with
 | nil=>intro a w h;exact b a w h
 | cons i l ih =>
  intro a w h;rw [WRun] at h ⊢;simp only [List.contains_nil,cond_false] at h ⊢;obtain ⟨v,c,d⟩:=h;exact ⟨v,c,ih d⟩
theorem WT.toB:∀{n:Nat} {done:List Nat} {a:Act} {w:World},WT P r ops D m eff K n done a w->WTB P r ops D m eff B K n done a w:=by
 intro n
 induction n with
 | zero=>intro done a w h;rw [WT] at h;rw [WTB];exact h
 | succ n ih =>
  intro done a w h;rw [WT] at h;rw [WTB];refine WRun.mono0 (λa w h e he=>SK.toB ?_) h;obtain ⟨o,ho,h⟩:=h e he;exact ⟨o,ho,h.mono λ_ _ h=>⟨h.1,ih h.2⟩⟩
theorem A5c (m:Nat) (eff:List Nat) (b:P.follows .mixedOrders=true) (c:(Bg ops N&&Te ops m&&Nv ops m&&Kh ops&&Nat.ble m ops.size&&Ub ops m eff eff.length [] []&&eff.all (λe=>Nat.blt e m&&(match ops[e]? with|some o=>plainOp o.op|none=>false))&&U5 eff)=true) (d:a.tmps.size=N)
  (f:D { w with drawn:=w.drawn+1 }) (h:WT P r ops D m eff (λa w=>WI P r ops Q m a w) eff.length [] a { w with drawn:=w.drawn+1 }):WP P r (.region id ops true) Q a w:=by
 refine Yy (B:=λ_ _=>False) m eff b c d (λ_ _ _ _ h=>h.elim) f (WT.toB h)
theorem WRun.mono (b:∀a w,K a w->K' a w) {l:List Nat} (h:WRun P r ops D [] K l a w):WRun P r ops D [] K' l a w:=WRun.mono0 b h
theorem SK.mono (b:∀a w,K a w->K' a w) (h:SK P r ops k K a w):SK P r ops k K' a w:=by
 obtain ⟨o,ho,h⟩:=h;exact ⟨o,ho,h.mono λ_ _=>b _ _⟩
theorem WT.mono (b:∀a w,K a w->K' a w):∀{n:Nat} {done:List Nat} {a:Act} {w:World},WT P r ops D m eff K n done a w->WT P r ops D m eff K' n done a w:=by
 intro n
 induction n with
 | zero=>intro done a w h;rw [WT] at h ⊢;exact WRun.mono b h
 | succ n ih =>
  intro done a w h;rw [WT] at h ⊢;exact WRun.mono (λa w h e he=>(h e he).mono λa w h=>⟨h.1,ih h.2⟩) h
theorem A42 (m:Nat) (eff:List Nat) (J:Act->World->Prop) (b:P.follows .mixedOrders=true) (c:(Bg ops N&&Te ops m&&Nv ops m&&Kh ops&&Nat.ble m ops.size&&Ub ops m eff eff.length [] []&&eff.all (λe=>Nat.blt e m&&(match ops[e]? with|some o=>plainOp o.op|none=>false))&&U5 eff)=true) (d:a.tmps.size=N)
  (f:D { w with drawn:=w.drawn+1 }) (h:WT P r ops D m eff J eff.length [] a { w with drawn:=w.drawn+1 }) (g:∀a w,J a w->WI P r ops Q m a w):WP P r (.region id ops true) Q a w :=
 A5c m eff b c d f (WT.mono g h)
theorem WT.z (rs:List Nat) (hr:Ci ops m eff done=rs) (h:WRun P r ops D [] K rs a w):WT P r ops D m eff K 0 done a w:=by rw [WT,hr];exact h
theorem WT.s (rs es:List Nat) (hr:Ci ops m eff done=rs) (b:Vj ops eff done=es)
  (h:WRun P r ops D [] (λa w=>∀e∈es,SK P r ops e (λa' w'=>D w'/\WT P r ops D m eff K n (done++[e]) a' w') a w) rs a w):WT P r ops D m eff K (n+1) done a w:=by rw [WT,hr,b];exact h
theorem B4 {p:Nat->Prop}:∀e∈([]:List Nat),p e:=λe h=>by simp at h
theorem all_cons {p:Nat->Prop} {x:Nat} {l:List Nat} (h:p x) (t:∀e∈l,p e):∀e∈x::l,p e:=λe he=>by
 rcases List.mem_cons.1 he with rfl|he
 ·exact h
 ·exact t e he
theorem Bu (m:Nat) (eff:List Nat) (J:Act->World->Prop) (b:P.follows .mixedOrders=true) (c:(Bg ops N&&Te ops m&&Nv ops m&&Kh ops&&Nat.ble m ops.size&&Ub ops m eff eff.length [] []&&eff.all (λe=>Nat.blt e m&&(match ops[e]? with|some o=>plainOp o.op|none=>false))&&U5 eff)=true) (d:a.tmps.size=N)
  (h:∀w1,Ext w w1->D w1/\WT P r ops D m eff J eff.length [] a w1) (f:∀a w,J a w->WI P r ops Q m a w):WP P r (.region id ops true) Q a w :=
 A42 m eff J b c d (h _ (Vy w)).1 (h _ (Vy w)).2 f
theorem WTB.z (rs:List Nat) (hr:Ci ops m eff done=rs) (h:WRun P r ops D [] K rs a w):WTB P r ops D m eff B K 0 done a w:=by rw [WTB,hr];exact h
theorem WTB.s (rs es:List Nat) (hr:Ci ops m eff done=rs) (b:Vj ops eff done=es)
  (h:WRun P r ops D [] (λa w=>∀e∈es,SKB P r ops e B (λa' w'=>D w'/\WTB P r ops D m eff B K n (done++[e]) a' w') a w) rs a w):WTB P r ops D m eff B K (n+1) done a w:=by rw [WTB,hr,b];exact h
theorem Sy (m:Nat) (eff:List Nat) (b:P.follows .mixedOrders=true) (c:(Bg ops N&&Te ops m&&Nv ops m&&Kh ops&&Nat.ble m ops.size&&Ub ops m eff eff.length [] []&&eff.all (λe=>Nat.blt e m&&(match ops[e]? with|some o=>plainOp o.op|none=>false))&&U5 eff)=true) (d:a.tmps.size=N)
  (f:∀ch a' w,a'.defers=a.defers->B ch w->Q (.panic ch) a' w) (h:∀w1,Ext w w1->D w1/\WTB P r ops D m eff B (λa w=>WI P r ops Q m a w) eff.length [] a w1):WP P r (.region id ops true) Q a w :=
 Yy m eff b c d f (h _ (Vy w)).1 (h _ (Vy w)).2
theorem A8w {f:FuncId} {c:Code} (d:P.funcs[f]? = some fn) (hb:fn.body=some c) (N:Nat) (M:List (Nat×Value)) (e:fn.ntmps=N)
  (b:Nat.ble args.size N=true) (g:M.map (λp=>(args++Array.replicate (N-args.size) undef).getD p.1 undef)=M.map Prod.snd) (h:∀a w1,w1=w->Fr N [] M a->WP P none c (bodyPost P fn R) a w1):Calls P f args w R :=
 B14 d hb N M e b g λa=>h a w rfl
theorem A56 {cs:List Cd} {s:Sem Value} (h:Br cs=false):Ob.ok P T D (.run cs s v):=λb=>by rw [h] at b;cases b
theorem B2a {cs:List Cd} {f:FuncId} (h:Br cs=false):Ob.ok P T D (.call cs f args v):=λb=>by rw [h] at b;cases b
theorem Ng {cs:List Cd} {i:Nat} {c:Cd} (hi:cs[i]? = some c) (h:(c.p==c.want)=false):Br cs=false:=by
 cases b:Br cs with
 | false=>rfl
 | true =>
  have:=A01.1 b c (List.mem_of_getElem? hi);rw [this] at h;simp at h
end
section
theorem A40 {g:Nat} {ps:Array Tmp} {assign body:Code} {gf:FuncId} {lb:Array Value} (args:Nat->Array Value) (N1:List Res->Prop) (N2:Code->List Res->Prop) (n:Fr N ds M a) (s:lookM M g=some (.func (.func gf) #[] lb)) (t:St w0 H w)
  (b:∀l,#[.func (.yield l) #[] #[]]++lb=args l) (k:∀args,pureSem P (callFunc gf args)=some (.enter gf args))
  (d:∀fn l D rec w1,rec=B4x a ps assign body D fn->St w0 (Ct l (rec .ready none)::Ct D (.deferred (some []))::H) w1 ->
   Calls P gf (args l) w1 (λe w3=>∃v,e=.returned v /\
    ((∃H1,N1 H1/\St w0 (Ct l (rec .ready none)::Ct D (.deferred (some []))::H1) w3)\/∃c H2,N2 c H2/\St w0 (Ct l (rec .done (some c))::Ct D (.deferred (some []))::H2) w3)))
  (f:∀D a' w' H1,N1 H1->Fr N (⟨.collected D,#[]⟩::ds) M a'->St w0 (Ct D (.deferred (some []))::H1) w'->Q .normal a' w')
  (j:∀D c a' w' H2,N2 c H2->Fr N (⟨.collected D,#[]⟩::ds) M a'->St w0 (Ct D (.deferred (some []))::H2) w'->WP P none c Q a' w'):WP P none (.rangeFunc (.tmp g) ps assign body) Q a w:=by
 refine wpIn_rangeFunc ?_;intro fn u;rw [show (F0 none).round=none from rfl];obtain ⟨W1,m⟩:∃W1,(w.alloc (.deferred (some []))).alloc (B4x a ps assign body w.heap.size fn .ready none)=W1:=⟨_,rfl⟩;have x:(Instr.enterLoop fn a.tmps ps assign body none).run P w=.ok (w.heap.size+1,[{ target:=.collected w.heap.size,args:=#[] }]) W1:=by rw [←m];exact run_enterLoop_outer _ _ _ _ _
 refine ⟨w.heap.size+1,[{ target:=.collected w.heap.size,args:=#[] }],W1,{ target:=.fn (.func gf) lb,args:=#[.func (.yield (w.heap.size+1)) #[] #[]] },W1,gf,
  #[.func (.yield (w.heap.size+1)) #[] #[]]++lb,W1,x,?_,λ_ _=>trivial,?_,λh=>by simp [F0,Fence.wide] at h,?_⟩
 ·have o:a.eval (.tmp g)=.func (.func gf) #[] lb:=n.get s;simp only [resolve,o];simp [go_sem]
 ·simp only [invoke];exact Bl _ _ (k _) _
 ·rw [b];refine Q7.2 (Calls.mono (d fn (w.heap.size+1) w.heap.size _ W1 rfl ?_) ?_)
  ·rw [←m];have y:=(t.allocObj (.deferred (some []))).allocObj (B4x a ps assign body w.heap.size fn .ready none)
   simpa using y
  ·rintro e w3 ⟨v,rfl,h⟩;have fr:Fr N (⟨.collected w.heap.size,#[]⟩::ds) M { a with defers:=[{ target:=.collected w.heap.size,args:=#[] }]++a.defers }:=⟨n.size,by simp [n.defers],n.slot⟩;rcases h with ⟨H1,p,h⟩|⟨c,H2,q,h⟩
   ·have r:=h.res (i:=0) rfl;refine ⟨none,_,run_endLoop (P:=P) r sm,?_⟩;exact f _ _ _ _ p fr (h.putObj (i:=0) _ rfl).drop1
   ·have r:=h.res (i:=0) rfl;refine ⟨some c,_,run_endLoop (P:=P) r sm,?_⟩;exact j _ c _ _ _ q fr (h.putObj (i:=0) _ rfl).drop1
theorem Uu {f:FuncId} {c:Code} (d:P.funcs[f]? = some fn) (hb:fn.body=some c) (N:Nat) (M:List (Nat×Value)) (e:fn.ntmps=N)
  (b:Nat.ble args.size N=true) (g:M.map (λp=>(args++Array.replicate (N-args.size) undef).getD p.1 undef)=M.map Prod.snd) (h:∀a w1,w1=w->Fr N (K3 []) M a->WP P none c (bodyPostM (F0 none) 0 P fn R) a w1):Calls P f args w R :=
 A8v d hb N M e b g λa=>h a w rfl
end
section
variable {A R G:List Res} {f:Res}
theorem St.rot (A:List Res) (h:St w0 (A++(f::(R++G))) w):St w0 (f::(R++(G++A))) w :=
 h.perm (by
  have:(A++(f::(R++G))).Perm ((f::(R++G))++A):=List.perm_append_comm
  simpa [List.append_assoc] using this)
theorem St.unrot (A:List Res) (h:St w0 (f::(R++(G++A))) w):St w0 (A++(f::(R++G))) w :=
 h.perm (by
  have:((f::(R++G))++A).Perm (A++(f::(R++G))):=List.perm_append_comm
  simpa [List.append_assoc] using this)
end
structure EndsC (P:Program) (ops:Array Oper) (n k:Nat) (M:List (Nat×Value)) (M':List (Nat×En)) (obs:List Ob):Prop where
 eq:((evalSeg P ops n k (ofM M) (obs.map Ob.v)).map λx=>(M'.map (λp=>lookE x.1 p.1),x.2))=some (M'.map (λp=>some p.2),obs)
section
variable {M':List (Nat×En)}
theorem A67 (l:Trans T) (h:EndsC P ops n k M M' obs) (m:(M'.all λp=>Br p.2.conds)=true) (D:World->Prop) (e:Obs P T D obs):∃(Φ:List Asn),Φ.length=n/\Seg P r ops T D Φ k (toA (ofM M))/\(∀φ∈Φ,Y7 T φ) /\
  ∀a' w',a'.tmps.size=N->a'.defers=ds->EnvOk (Ze ops Φ k (toA (ofM M))) a' w'->Fr N ds (M'.map λp=>(p.1,p.2.v)) a':=by
 have h:=h.eq
 cases b:evalSeg P ops n k (ofM M) (obs.map Ob.v) with
 | none=>rw [b] at h;simp at h
 | some x =>
  obtain ⟨E',obs'⟩:=x;rw [b] at h;simp only [Option.map_some,Option.some.injEq,Prod.mk.injEq] at h;obtain ⟨o,rfl⟩:=h;obtain ⟨Φ,s,c,f,d⟩:=Yh (r:=r) l n k _ _ _ _ b (Yd M) e;refine ⟨Φ,s,c,f,λa' w' t hd i=>⟨t,hd,?_⟩⟩;intro q u;obtain ⟨p,j,rfl⟩:=List.mem_map.1 u;rw [d] at i;have g:lookE E' p.1=some p.2:=List.map_inj_left.1 o p j;have:=i p.1 (λv _=>v=p.2.val) (by rw [Qd,g];rfl);have y:=List.all_eq_true.1 m p j
  simpa [En.val,y] using this
theorem Yz (k':Nat) (M':List (Nat×En)) (f:Fr N ds M a) (c:Bg ops N=true) (g:Obs P (λa b=>b=a) (λx=>x=w) obs) (h:EndsC P ops n k M M' obs) (j:(M'.all λp=>Br p.2.conds)=true) (l:k+n=k')
  (next:∀a',Fr N ds (M'.map λp=>(p.1,p.2.v)) a'->WI P r ops Q k' a' w):WI P r ops Q k a w:=by
 obtain ⟨Φ,m,d,i,e⟩:=A67 (r:=r) (N:=N) (ds:=ds) Ws h j (λx=>x=w) g;refine A44 Ws (λ_ _ h k=>k.trans h) c Φ k _ a w d i (Wo _ _) rfl f.size (Ue f w) ?_;intro a' w' o q hd s;subst o;rw [m,l];exact next a' (e a' w' q (hd.trans f.defers) s)
end
def B4y:List Value->Value|[v]=>v|vs=>.tuple vs.toArray
def exc {ε α β:Type} (y:Except ε α) (f:ε->β) (g:α->β):β:=match y with|.error e=>f e|.ok x=>g x
theorem S6 {ε:Type} {y:Except ε α} {e:ε} {f:ε->β} {g:α->β} {z:β} (h:exc y f g=z) (b:y=.error e):f e=z:=by subst b;exact h
theorem S7 {ε:Type} {y:Except ε α} {f:ε->β} {g:α->β} {z:β} (h:exc y f g=z) (b:y=.ok x):g x=z:=by subst b;exact h
section
theorem WI.consQ {i:Nat} (ho:ops[i]? = some o) (b:Region.wanted o (yielded ops a.tmps)=true)
  (h:o.wpIn (F0 r) 0 P a w (λa w=>WI P r ops Q (i+1) a w) Q):WI P r ops Q i a w:=by
 have hi:i<ops.size:=(Array.getElem?_eq_some_iff.1 ho).1;have e:List.range' i (ops.size-i)=i::List.range' (i+1) (ops.size-(i+1)):=by
  rw [show ops.size-i=(ops.size-(i+1))+1 by omega,List.range'_succ]
 unfold WI;rw [e,wpOpsIn_cons];unfold Go.wpOpIn;rw [ho];simp only [b,if_true];exact h
theorem B9o (M':Value->List (Nat×Value)) {f:FuncId} {R:Value->World->Prop} {Rp:List PanicEntry->World->Prop} (i:Fr N ds M a) (c:Bg ops N=true) (b:CallAt P ops k M f args)
  (l:Calls P f args w (λe w'=>(∃v,e=.returned v/\R v w')\/∃ch,e=.panicked ch/\Rp ch w')) (m:∀v,NextM ops k M v (M' v))
  (n:∀ch w',Rp ch w'->Q (.panic ch) a w')
  (next:∀v w' a',R v w'->Fr N ds (M' v) a'->WI P r ops Q (k+1) a' w'):WI P r ops Q k a w:=by
 have b:=b.eq
 cases ho:plainAt ops k M with
 | none=>rw [ho] at b;simp at b
 | some o =>
  rw [ho] at b;simp only [Option.bind_some] at b
  split at b
  ·rename_i f' args' d
   simp at b;obtain ⟨rfl,rfl⟩:=b;obtain ⟨j,p,q⟩:=Mb (r:=r) ho i;refine WI.consQ j p ⟨λ_ _=>trivial,?_⟩
   change o.uponIn (F0 r) 0 P a _ Q ((o.semAt r a.eval).run P w)
   rw [q,Bl _ _ d w];refine ⟨λh=>by simp [F0,Fence.wide] at h,Q7.2 (Calls.mono l ?_)⟩;rintro e w'' (⟨v,rfl,g⟩|⟨ch,rfl,g⟩)
   ·exact next v w'' _ g (K4 j c i (m v))
   ·exact n ch w'' g
  ·simp at b
theorem Eu (b:Fr N [] M a) (c:R (.panicked ch) w):bodyPost P fn R (.panic ch) a w:=⟨b.defers,c⟩
structure DeferAt (P:Program) (ops:Array Oper) (k:Nat) (M:List (Nat×Value)) (d:Deferred):Prop where
 eq:((ops[k]?).bind λo=>match o.guard with
  | none=>bif o.op.operands.toList.all (okOperand (ofM M) [])&&(match o.op with|.defer _=>true|_=>false) then (match pureSem P (execOp (rhoE (ofM M)) o) with|some (.defer d)=>some d|_=>none) else none
  | some _=>none)=some d
theorem B7a (k':Nat) (d:Deferred) (M':List (Nat×Value)) (l:Fr N ds M a) (j:Bg ops N=true) (f:DeferAt P ops k M d) (r:NextM ops k M undef M') (s:k+1=k')
  (next:∀a',Fr N (d::ds) M' a'->WI P none ops Q k' a' w):WI P none ops Q k a w:=by
 subst s;have f:=f.eq
 cases ho:ops[k]? with
 | none=>rw [ho] at f;simp at f
 | some o =>
  rw [ho] at f;simp only [Option.bind_some] at f
  cases m:o.guard with
  | some g=>rw [m] at f;simp at f
  | none =>
   rw [m] at f;simp only at f
   cases i:(o.op.operands.toList.all (okOperand (ofM M) [])&&(match o.op with|.defer _=>true|_=>false)) with
   | false=>rw [i] at f;simp at f
   | true =>
    rw [i] at f;simp only [cond_true] at f
    split at f
    ·rename_i d' n
     simp only [Option.some.injEq] at f;subst f;rw [Bool.and_eq_true,List.all_eq_true] at i;have p:execOp a.eval o=execOp (rhoE (ofM M)) o:=by
      refine execOp_congr o (λcs b u=>by have:=i.2;rw [u] at this;simp at this) ?_;intro x v;refine M8 (cur:=[]) (Yd M) (λc i=>by simp at i) rfl (i.1 x (by simpa using v)) ?_;intro t _ e he;obtain ⟨y,z⟩:=X3 he;have:=l.slot _ z;simp only at this;rw [this];simp [En.val,y,Br]
     refine WI.consQ ho (by simp [Region.wanted,m]) ⟨λ_ _=>trivial,?_⟩
     change o.uponIn (F0 none) 0 P a _ Q ((o.semAt none a.eval).run P w)
     rw [Oper.semAt_none,p,Bl _ _ n w];have q:Fr N (d'::ds) M { a with defers:=d'::a.defers }:=⟨l.size,by simp [l.defers],l.slot⟩;exact next _ (K4 ho j q r)
    ·simp at f
theorem A8u {f:FuncId} {c:Code} (e:P.funcs[f]? = some fn) (hb:fn.body=some c) (N:Nat) (M:List (Nat×Value)) (d:fn.ntmps=N)
  (b:Nat.ble args.size N=true) (g:M.map (λp=>(args++Array.replicate (N-args.size) undef).getD p.1 undef)=M.map Prod.snd) (h:∀a w1,w1=w->Fr N [] M a->WP P none c (bodyPostDIn (F0 none) 0 P fn R) a w1):Calls P f args w R:=by
 refine Q7 (r:=none) (n:=0) |>.1 (callsIn_of_wp_defers e hb trivial ?_ rfl);refine h _ _ rfl ⟨?_,rfl,λp i=>?_⟩
 ·have:=Nat.le_of_ble_eq_true b;simp [d];omega
 ·rw [d];exact List.map_inj_left.1 g p i
theorem A85 (rs:List ResultVar) (vs:List Value) (c:Fr N ds M a) (b:fn.results=rs.toArray) (h:Y6 P w M rs vs) :
  (results fn a.tmps).run P w=.ok (B4y vs) w:=by
 have hm:=Zt (a:=a) rs vs h c;have e:results fn a.tmps=(do let vs ←fn.results.mapM (Xz a.tmps);pure (if h:vs.size=1 then vs[0] else .tuple vs)):=by
  unfold results
  congr 1
 rw [e,b,List.mapM_toArray];simp [hm];rcases vs with _|⟨v,_|⟨u,vs⟩⟩<;>simp [B4y]
theorem B15 {fv:Nat} {cap:Array Value} (rs:List ResultVar) (d:Fr N [⟨.fn (.func fv) cap,#[]⟩] M a) (c:fn.results=rs.toArray) (b:∀args,pureSem P (callFunc fv args)=some (.enter fv args))
  (h:CallsDIn (F0 none) 0 P fv cap .returning w λe u' w'=>∃v,e=.returned v/\settle u'=.returning/\∃vs,Y6 P w' M rs vs/\R (.returned (B4y vs)) w'):bodyPostDIn (F0 none) 0 P fn R .ret a w:=by
 show LeavesIn (F0 none) 0 P fn a.tmps R a.defers .returning w;rw [d.defers];refine leavesIn_cons (f:=fv) (args:=cap) sm (λh=>by simp [F0,Fence.wide] at h) ?_ (λ_ _=>trivial) (CallsDIn.mono h ?_)
 ·simp only [invoke];rw [show (#[]:Array Value)++cap=cap by simp];exact Bl _ _ (b cap) w
 ·rintro e u' w' ⟨v,rfl,g,vs,hr,i⟩;show LeavesIn (F0 none) 0 P fn a.tmps R [] (settle u') w';rw [g];exact ⟨_,A85 rs vs d c hr,i⟩
theorem A6b {fv:Nat} {cap:Array Value} (rs:List ResultVar) (d:Fr N [⟨.fn (.func fv) cap,#[]⟩] M a) (c:fn.results=rs.toArray) (b:∀args,pureSem P (callFunc fv args)=some (.enter fv args))
  (h:CallsDIn (F0 none) 0 P fv cap (.panicking ch) w λe u' w'=>∃v,e=.returned v/\settle u'=.returning/\∃vs,Y6 P w' M rs vs/\R (.returned (B4y vs)) w'):bodyPostDIn (F0 none) 0 P fn R (.panic ch) a w:=by
 show LeavesIn (F0 none) 0 P fn a.tmps R a.defers (.panicking ch) w;rw [d.defers];refine leavesIn_cons (f:=fv) (args:=cap) sm (λh=>by simp [F0,Fence.wide] at h) ?_ (λ_ _=>trivial) (CallsDIn.mono h ?_)
 ·simp only [invoke];rw [show (#[]:Array Value)++cap=cap by simp];exact Bl _ _ (b cap) w
 ·rintro e u' w' ⟨v,rfl,g,vs,hr,i⟩;show LeavesIn (F0 none) 0 P fn a.tmps R [] (settle u') w';rw [g];exact ⟨_,A85 rs vs d c hr,i⟩
def A0k:FrameMode->Value
 | .panicking ({ v,recovered:=false,goexit:=false }::_)=>v
 | _=>.nilIface
def Wk:FrameMode->FrameMode
 | .panicking ({ v,recovered:=false,goexit:=false }::older)=>.panicking ({ v,recovered:=true }::older)
 | u=>u
theorem A5b (c:Frame) (cs:List Frame):(recoverD (c::cs)=some (A0k c.mode,{ c with mode:=Wk c.mode }::cs))\/(recoverD (c::cs)=none/\A0k c.mode=.nilIface/\Wk c.mode=c.mode):=by
 cases hm:c.mode with
 | run=>exact .inr (by simp [recoverD,A0k,Wk,hm])
 | returning=>exact .inr (by simp [recoverD,A0k,Wk,hm])
 | panicking l =>
  cases l with
  | nil=>exact .inr (by simp [recoverD,A0k,Wk,hm])
  | cons x l =>
   obtain ⟨v,rc,ge⟩:=x
   cases rc<;>cases ge
   ·exact .inl (by simp [recoverD,A0k,Wk,hm])
   ·exact .inr (by simp [recoverD,A0k,Wk,hm])
   ·exact .inr (by simp [recoverD,A0k,Wk,hm])
   ·exact .inr (by simp [recoverD,A0k,Wk,hm])
structure RecAt (P:Program) (ops:Array Oper):Prop where
 eq:((ops[0]?).map λo=>(o.guard.isNone,match pureSem P (execOp (λ_=>undef) o) with|some .recover=>true|_=>false,o.op.operands.size,plainOp o.op))=some (true,true,0,true)
theorem Vu {f:FuncId} {rest:Code} {u:FrameMode} {R:Ending->FrameMode->World->Prop} (hf:P.funcs[f]? = some fn) (hb:fn.body=some (.seq (.region id ops false) rest)) (N:Nat) (M M':List (Nat×Value)) (hN:fn.ntmps=N)
  (b8:Nat.ble args.size N=true) (hM:M.map (λp=>(args++Array.replicate (N-args.size) undef).getD p.1 undef)=M.map Prod.snd) (y:Bg ops N=true) (s:RecAt P ops) (b9:NextM ops 0 M (A0k u) M')
  (h:∀a,Fr N [] M' a->WI P none ops (Exit.then (WP P none rest (bodyPost P fn λe w=>R e (Wk u) w)) (bodyPost P fn λe w=>R e (Wk u) w)) 1 a w):CallsDIn (F0 none) 0 P f args u w R:=by
 have s:=s.eq
 cases ho:ops[0]? with
 | none=>rw [ho] at s;simp at s
 | some o =>
 rw [ho] at s;simp only [Option.map_some,Option.some.injEq,Prod.mk.injEq] at s;obtain ⟨t,n,c0,z⟩:=s;have b0:Fr N [] M { tmps:=args++Array.replicate (fn.ntmps-args.size) undef,defers:=[] }:=by
  refine ⟨?_,rfl,λp hp=>?_⟩
  ·have:=Nat.le_of_ble_eq_true b8;simp [hN];omega
  ·rw [hN];exact List.map_inj_left.1 hM p hp
 refine callsDIn_of_wpSIn hf hb trivial λc₀ cs hu=>wpSIn_seq ?_;generalize ({ tmps:=args++Array.replicate (fn.ntmps-args.size) undef,defers:=[] }:Act)=a at b0;have c3:Region.wanted o (yielded ops a.tmps)=true:=by
  cases b1:o.guard with
  | none=>simp [Region.wanted,b1]
  | some g=>rw [b1] at t;simp at t
 have c4:execOp a.eval o=execOp (λ_=>undef) o:=by
  refine execOp_congr o (λcs b hh=>by rw [hh] at z;simp [plainOp] at z) ?_;intro x hx;have:o.op.operands=#[]:=Array.eq_empty_of_size_eq_zero c0;rw [this] at hx;simp at hx
 have q:(execOp a.eval o).run P w=.ok .recover w:=by
  rw [c4]
  split at n
  ·rename_i hp;exact Bl _ _ hp w
  ·simp at n
 have hi:0<ops.size:=(Array.getElem?_eq_some_iff.1 ho).1;have i:List.range ops.size=0::List.range' 1 (ops.size-1):=by
  rw [List.range_eq_range',show ops.size=(ops.size-1)+1 by omega,List.range'_succ];simp
 intro b k c5 j b2 d;have hq:=h (a.put o.dst (A0k u)) (K4 ho y b0 b9);have b3:∀cs',cs'={ c₀ with mode:=Wk u }::cs->step P (lone (b.atR a (.inRegion ops (List.range ops.size)::k)) (c₀::cs) w)=.next (lone (b.atR (a.put o.dst (A0k u)) (.inRegion ops (List.range' 1 (ops.size-1))::k)) cs' w):=by
  rintro cs' rfl;rw [i];have t:=stepGR_op (P:=P) (b:=b) (k:=k) (cs:=c₀::cs) (w:=w) (rest:=List.range' 1 (ops.size-1)) ho c3;rw [j,Oper.semAt_none] at t;have r:∀v,(b.atR a (.inRegion ops (0::List.range' 1 (ops.size-1))::k)).finish v=b.atR (a.put o.dst v) (.inRegion ops (List.range' 1 (ops.size-1))::k):=by
   intro v;rw [Frame.finish_atR,ho];rfl
  have hk:(b.atR a (.inRegion ops (0::List.range' 1 (ops.size-1))::k)).kind=.deferred:=c5;have m:=tryRecover_deferred hk (c₀::cs);rcases A5b c₀ cs with hr|⟨hr,hv,hm⟩
  ·rw [hu] at hr;refine step_lone_go ?_;rw [t,←r];simp only [Frame.atR,j] at m ⊢;simp [stepG.apply,q,m,hr]
  ·rw [hu] at hv hm;have hc:({ c₀ with mode:=Wk u }:Frame)=c₀:=by rw [hm,←hu]
   refine step_lone_go ?_;rw [t,hc,hv,←r];simp only [Frame.atR,j] at m ⊢;simp [stepG.apply,q,m,hr]
 obtain ⟨e,a',w',c,b4⟩:=wp_opsIn _ _ _ hq b k ({ c₀ with mode:=Wk u }::cs) j b2 d;refine ⟨e,a',{ c₀ with mode:=Wk u }::cs,w',rfl,?_,.of_steps (StepsIn.trans (.one (fenced_calm b2 d rfl) stepR_region) (.one (Wz _ _ _) (b3 _ rfl))) b4⟩;have hB:∀e a w,bodyPost P fn (λe w=>R e (Wk u) w) e a w->bodyPostS P fn c₀ cs R e a ({ c₀ with mode:=Wk u }::cs) w:=by
  intro e a w hb
  cases e with
  | normal=>obtain ⟨h1,v,h2,h3⟩:=hb;exact ⟨h1,_,rfl,v,h2,h3⟩
  | ret=>obtain ⟨h1,v,h2,h3⟩:=hb;exact ⟨h1,_,rfl,v,h2,h3⟩
  | panic ch=>obtain ⟨h1,h2⟩:=hb;exact ⟨h1,_,rfl,h2⟩
  | outgrown=>exact ⟨_,hb⟩
  | exit id=>exact hb.elim
  | goto l=>exact hb.elim
 cases e with
 | normal=>exact wpSIn_of_wpIn rfl (wpIn_mono c λe a w h=>hB e a w h)
 | ret=>exact hB .ret _ _ c
 | panic ch=>exact hB (.panic ch) _ _ c
 | outgrown=>exact hB .outgrown a' w' c
 | exit id=>exact c.elim
 | goto l=>exact c.elim
end
section
end
section
variable {H:Type} {enc:TypeId×Value->H} {t e:TypeId} {cs:List Value}
def Reads (enc:TypeId×Value->H) (P:Program) (w:World) (t:TypeId) (cs:List Value):Prop:=∃fuel d,DataW.trod enc P w 0 (λ_=>true) true fuel t cs=some d
theorem Reads.of {d:DataW H} {p:List MemPlace} (h:DataW.Trod enc P w 0 (λ_=>true) true t v d p):Reads enc P w t v.cells.toList:=by
 obtain ⟨f,h⟩:=h;exact ⟨f,_,h⟩
theorem Reads.int {k:IntKind} (b:P.underlying t=some (.int k)) (h:Reads enc P w t cs):∃n,cs=[.int k n]/\(Lit.int k n).wf=true:=by
 obtain ⟨f,d,h⟩:=h;obtain ⟨n,c,_,e⟩:=DataW.trod_int b h;exact ⟨n,c,e⟩
theorem Reads.len (b:P.underlying t=some (.struct fs)) (h:Reads enc P w t cs):cs.length=P.cellsOf t:=by
 obtain ⟨f,d,h⟩:=h;obtain ⟨_,_,_,_,c,_⟩:=DataW.trod_struct b h;exact c
theorem Reads.field (e:P.underlying t=some (.struct fs)) (h:Reads enc P w t cs) (i:Nat) {f:Field} (c:fs[i]? = some f) (m:Nat) (hm:P.cellsOf f.type=m):Reads enc P w f.type ((cs.drop f.offset).take m):=by
 obtain ⟨fu,d,h⟩:=h;obtain ⟨xs,n,_,_,_,g,b⟩:=DataW.trod_struct e h;have hi:i<fs.size:=(Array.getElem?_eq_some_iff.1 c).1;have:=b i f c;rw [List.getElem?_eq_getElem om,hm] at this;exact ⟨n,_,this⟩
theorem A00 {R:β->α->Prop} {ok:α->Prop}:∀(css:List β),(∀c∈css,∃x,R c x/\ok x)->∃l,All2 R css l/\∀x∈l,ok x
 | [],_=>⟨[],.nil,sm⟩
 | c::css,h=>by
  obtain ⟨x,d,e⟩:=h c sm;obtain ⟨l,f,b⟩:=A00 css (λc g=>h c (by simp [g]));exact ⟨x::l,.cons d f,by simpa using ⟨e,b⟩⟩
theorem Reads.row (ht:P.underlying t=some (.slice e)) (s:P.cellsOf e=sz) (h0:0<sz) (h:Reads enc P w t cs) :
  ∃(ad:Option Addr) (cap:Nat) (css:List (List Value)),cs=[.slice ad css.length cap]/\ArrM (C3 w) sz (fN sz) ad cap css/\∀c∈css,c.length=sz/\Reads enc P w e c:=by
 obtain ⟨f,d,h⟩:=h;rcases DataW.trod_slice ht h with ⟨rfl,_⟩|⟨a,len,cap,elems,rest,n,_,rfl,_,_,hl,hm,z,o,_,_⟩
 ·exact ⟨none,0,[],rfl,ArrM.nil,sm⟩
 ·rw [s] at o;have k:∀i,i<len->∃c,w.cells? 0 (a.add (i*sz)) sz=some c/\Reads enc P w e c:=by
   intro i hi;have:=o i hi;rw [List.getElem?_eq_getElem om,Option.bind_eq_some_iff] at this;obtain ⟨c,b,m⟩:=this;exact ⟨c,b,n,_,m⟩
  let css:=(List.range len).map λi=>(w.cells? 0 (a.add (i*sz)) sz).getD []
  have p:css.length=len:=by simp [css]
  have q:∀i,i<len->∃c,css[i]? = some c/\w.cells? 0 (a.add (i*sz)) sz=some c/\Reads enc P w e c:=by
   intro i hi;obtain ⟨c,b,m⟩:=k i hi;exact ⟨c,by simp [css,hi,b],b,m⟩
  have g:∀c∈css,c.length=sz/\Reads enc P w e c:=by
   intro c v;obtain ⟨i,hi,he⟩:=List.mem_iff_getElem.1 v;obtain ⟨c',b,m,h3⟩:=q i om;rw [List.getElem?_eq_getElem hi,he] at b;obtain rfl:=Option.some.inj b;exact ⟨(World.cells?_some m).2.1,h3⟩
  refine ⟨some a,cap,css,by rw [p],Arr.toM ⟨rfl,some a,cap,rfl,?_,om,hm,λhn=>⟨a,rfl,?_,?_⟩⟩,g⟩
  ·exact Kr (Ba sz) css
  ·obtain ⟨c,b,_⟩:=k 0 om;have:=World.cells?_block b h0
   simpa [Addr.add] using this
  ·intro j u hj;have x:j<(css.flatMap (fN sz)).length:=(List.getElem?_eq_some_iff.1 hj).1;rw [Kr (Ba sz),p] at x;have hd:j/sz<len:=Nat.div_lt_of_lt_mul (by rwa [Nat.mul_comm]);obtain ⟨c,b,m,h3⟩:=q (j/sz) hd;have v:=(g c (List.mem_of_getElem? b)).1;have l:=Nat.mod_lt j h0;have r:j=j/sz*sz+j%sz:=by rw [Nat.mul_comm];exact (Nat.div_add_mod j sz).symm
   rw [r,Vz (Ba sz) css _ _ c b l] at hj;have y:fN sz c=c:=by simp [fN,←v]
   rw [y] at hj;have:=(World.cells?_some m).2.2 (j%sz) l;rw [Addr.add_add,←r] at this;rw [this,hj]
theorem Reads.sliceQ (i:P.underlying t=some (.slice e)) (d:P.cellsOf e=sz) (h0:0<sz) {R:Rel α} {ok:α->Prop} (j:∀c,c.length=sz->Reads enc P w e c->∃x,R (C3 w) c x/\ok x) (h:Reads enc P w t cs) :
  ∃(ad:Option Addr) (cap:Nat) (css:List (List Value)) (l:List α),cs=[.slice ad l.length cap]/\ArrQ (C3 w) sz R ad cap css l/\∀x∈l,ok x:=by
 obtain ⟨ad,cap,css,rfl,k,b⟩:=Reads.row i d h0 h;obtain ⟨l,f,m⟩:=A00 (R:=R (C3 w)) (ok:=ok) css (λc g=>j c (b c g).1 (b c g).2);exact ⟨ad,cap,css,l,by rw [f.len],⟨k,f⟩,m⟩
theorem Reads.slice (m:P.underlying t=some (.slice e)) (b:P.cellsOf e=sz) (h0:0<sz) {ok:α->Prop} (n:∀c,c.length=sz->Reads enc P w e c->∃x,c=f x/\ok x) (o:∀x,(f x).length=sz) (h:Reads enc P w t cs) :
  ∃(ad:Option Addr) (cap:Nat) (l:List α),cs=[.slice ad l.length cap]/\ArrM (C3 w) sz f ad cap l/\∀x∈l,ok x:=by
 obtain ⟨ad,cap,css,l,rfl,⟨j,p⟩,k⟩:=Reads.sliceQ (R:=RpF f) m b h0 n h;have d:css=l.map f:=by
  clear j h k
  induction p with
  | nil=>rfl
  | cons h _ ih=>rw [List.map_cons,←ih,←(show _=f _ from h)]
 subst d;refine ⟨ad,cap,l,rfl,λw' g=>?_,k⟩;have:=j w' g;have i:(l.map f).flatMap (fN sz)=l.flatMap f:=by
  rw [List.flatMap_map]
  congr 1
  funext x
  simp [fN,←o x]
 unfold Arr at this ⊢;rw [i] at this
 simpa using this
theorem Reads.struct (b:P.underlying t=some (.struct fs)) {r:Reach} {b0:Nat} (d:Value.okWide P w r b0 t v):∃cs:List Value,v=.agg cs.toArray/\v.cells.toList=cs:=by
 obtain ⟨c,rfl,_⟩:=WideShapes.okWide_struct b d;exact ⟨c.toList,sm,by simp [Value.cells]⟩
end
abbrev iv (n:Int):Value:=.int .i64 n
abbrev pb (b:Nat):Value:=.pointer (some ⟨b,0,none⟩)
section
theorem esr {y:Code} (h:WI P r ops (Exit.then (λa w=>WP P r y Q a w) Q) 0 a w):WP P r (.seq (.region id ops false) y) Q a w:=Ak (WI.region h)
theorem wfn (b:Nat.beq k ops.size=true) (h:K a w):WI P r ops (Exit.then K Q) k a w:=WI.fin b (A5 h)
theorem rn (n k':Nat) (M':List (Nat×Value)) (c:Fr N ds M a) (next:∀a',Fr N ds M' a'->WI P r ops Q k' a' w) (b:Bg ops N=true:=by kernel_rfl) (h:Ends P ops n k M M' []:=by exact ⟨by kernel_rfl⟩) (d:k+n=k':=by rfl):WI P r ops Q k a w :=
 A5e k' M' c b A4 h d next
end
abbrev sv {α:Type} (ad:Option Addr) (l:List α) (cap:Nat):Value:=.slice ad l.length cap
abbrev sb (b n:Nat):Value:=.slice (some ⟨b,0,none⟩) n n
abbrev ln {α:Type} (l:List α):Int:=(l.length:Int)
abbrev fz (w:World) (μ:Frz):Res:=Lt w.heap.size μ
section
end
section
variable {e:Nat} {l:List β}
theorem C0i (M':List (Nat×Value)) (i:Nat) {t:Nat} {j:Int} (off:Nat) (u u2:α) (x:β) (v:Value) {l3:List β} (s:All2 S c l) (n:S u2 x) (y:Fr N ds M a) (z:St w0 H w) (hi:H[i]? = some (arr e sz f ad l.length cap c)) (d:Bg ops N=true)
  (hs:StoreAt ops k M t (.pointer (some ((Ck ad j sz).add off))) v) (hf:∀x,(f x).length=sz) (hu:Av c j=some u) (hx:f u2=(f u).take off++v.cells.toList++(f u).drop (off+v.cells.toList.length)) (g:Nat.ble (off+v.cells.toList.length) sz=true)
  (o:pureSem P (sizeOf t)=some v.cells.size) (m:v.cells.toList.all Value.oneCell'=true) (p:Ka l j x=some l3) (hM:NextM ops k M undef M')
  (next:∀c3 w' a',Fr N ds M' a'->l.length=l3.length->All2 S c3 l3->St w0 (H.set i (arr e sz f ad l.length cap c3)) w'->K a' w'):SK P r ops k K a w:=by
 have b:=s.len;obtain ⟨h0,h1,rfl⟩:=Rl p;have q:Ka c j u2=some (c.set j.toNat u2):=by rw [Ka,if_pos om]
 refine A6v (l:=c) M' i off u u2 v y z (by rw [b];exact hi) d hs hf hu hx g o m q hM ?_;intro w' a' g1 g2 g3;rw [b] at g3;exact next _ w' a' g1 sm (s.set n _) g3
end
def B0x (P:Program) (g:TypeId->Value->Value->Option Bool) (xs ys:Array Value):List Field->Option Bool
 | []=>some true
 | f::fs =>
  if f.name ≠ "_" then
   match pureSem P (part f.type xs f.offset),pureSem P (part f.type ys f.offset) with
   | some a,some b=>(g f.type a b).bind λp=>(B0x P g xs ys fs).bind λq=>some (p&&q)
   | _,_=>none
  else B0x P g xs ys fs
def B7e (P:Program) (g:TypeId->Value->Value->Option Bool) (e:TypeId) (n:Nat) (xs ys:Array Value):List Nat->Option Bool
 | []=>some true
 | i::is =>
  match pureSem P (part e xs (i*n)),pureSem P (part e ys (i*n)) with
  | some a,some b=>(g e a b).bind λp=>(B7e P g e n xs ys is).bind λq=>some (p&&q)
  | _,_=>none
def eqB (P:Program):Nat->TypeId->Value->Value->Option Bool
 | 0,_,_,_=>none
 | d+1,t,x,y =>
  match P.underlying t,x,y with
  | some .bool,.bool a,.bool b=>some (a==b)
  | some (.int _),.int k a,.int k' b=>if k=k' then some (a==b) else none
  | some .string,.string a,.string b=>some (a==b)
  | some (.struct fs),.agg xs,.agg ys=>bif P.stoodInHeld t then none else B0x P (eqB P d) xs ys fs.toList
  | some (.array n e),.agg xs,.agg ys=>(pureSem P (sizeOf e)).bind λz=>B7e P (eqB P d) e z xs ys (List.range' 0 n)
  | _,_,_=>none
theorem B0y (g:TypeId->Value->Value->Option Bool) (d:Nat) (e:∀t x y b,g t x y=some b->∀w,(Op.equalIn d t x y).run P w=.ok b w) (xs ys:Array Value) :
  ∀(fs:List Field) (b:Bool),B0x P g xs ys fs=some b->∀w,(Op.eqFields d xs ys fs).run P w=.ok b w:=by
 intro fs
 induction fs with
 | nil=>intro b h w;cases h;rfl
 | cons f fs ih =>
  intro b h w;unfold B0x at h;unfold Op.eqFields
  split at h
  ·rename_i hn
   rw [if_pos hn]
   split at h
   ·rename_i a c i j
    obtain ⟨p,k,h⟩:=Option.bind_eq_some_iff.1 h;obtain ⟨q,l,h⟩:=Option.bind_eq_some_iff.1 h
    cases h
    simp only [Sem.run_bind,Bl _ _ i,Bl _ _ j,Result.andThen_ok,e _ _ _ _ k]
    cases p
    ·simp
    ·simp only [Bool.not_true,Bool.false_eq_true,if_false,Bool.true_and];exact ih q l w
   ·cases h
  ·rename_i hn
   rw [if_neg hn];exact ih b h w
theorem A3n:∀(d:Nat) (t:TypeId) (x y:Value) (b:Bool),eqB P d t x y=some b->∀w,(Op.equalIn d t x y).run P w=.ok b w:=by
 intro d
 induction d with
 | zero=>intro t x y b h;cases h
 | succ d ih =>
  intro t x y b h w;unfold eqB at h
  split at h
  ·rename_i f;cases h;simp [Op.equalIn,run_underlying f]
  ·rename_i f
   split at h
   ·rename_i k;cases h;subst k;simp [Op.equalIn,run_underlying f]
   ·cases h
  ·rename_i f;cases h;simp [Op.equalIn,run_underlying f]
  ·rename_i fs xs ys f
   cases g:P.stoodInHeld t with
   | true=>rw [g] at h;cases h
   | false =>
    rw [g] at h;have j:P.fieldsOf t=fs:=by unfold Program.fieldsOf;rw [f]
    rw [run_equalIn_struct w d t xs ys (by rw [j];exact f) g,j];exact B0y _ d ih xs ys _ _ h w
  ·rename_i n e xs ys f
   replace h:=Option.bind_eq_some_iff.1 h;obtain ⟨z,l,h⟩:=h;simp only [Op.equalIn,Sem.run_bind,run_underlying f,Result.andThen_ok,Bl _ _ l,Std.Legacy.Range.forIn_eq_forIn_range',Std.Legacy.Range.size,Nat.sub_zero,Nat.add_sub_cancel,Nat.div_one];generalize List.range' 0 n=is at h ⊢
   clear f
   induction is generalizing b with
   | nil=>cases h;simp
   | cons i is ih2 =>
    unfold B7e at h
    split at h
    ·rename_i a c m o
     obtain ⟨p,r,h⟩:=Option.bind_eq_some_iff.1 h;obtain ⟨q,s,h⟩:=Option.bind_eq_some_iff.1 h
     cases h
     simp only [List.forIn_cons,Sem.run_bind,Bl _ _ m,Bl _ _ o,Result.andThen_ok,ih _ _ _ _ r]
     cases p
     ·simp
     ·simp only [Bool.not_true,Bool.false_eq_true,if_false,Bool.true_and,Sem.run_pure,Result.andThen_ok];exact ih2 q s
    ·cases h
  ·cases h
section
variable {cs:List Cd} {t:TypeId} {xs ys:Array Value} {b:Bool}
theorem A32 (c:P.eqGuardType P.depth t=false) (h:eqB P 10000 t (.agg xs) (.agg ys)=some b):Ob.ok P T D (.run cs (eqS .eql t xs ys) (.bool b)):=by
 intro _ w _;simp only [eqS,Sem.run_bind,run_eqGuard_agg w .eql t _ _ xs ys c,Result.andThen_ok,run_eql_struct,A3n _ _ _ _ _ h]
theorem B6a (c:P.eqGuardType P.depth t=false) (h:eqB P 10000 t (.agg xs) (.agg ys)=some b):Ob.ok P T D (.run cs (eqS .neq t xs ys) (.bool (!b))):=by
 intro _ w _;simp only [eqS,Sem.run_bind,run_eqGuard_agg w .neq t _ _ xs ys c,Result.andThen_ok,run_neq_struct,A3n _ _ _ _ _ h]
end
theorem ArrM.none_nil (h:ArrM μ sz f none cap l) (hm:FrzAt μ w):l=[]:=by
 obtain ⟨_,ad',cap',e,_,_,_,hn⟩:=h w hm
 cases e
 by_cases b:0<l.length
 ·obtain ⟨a,c,_⟩:=hn b
  cases c
 ·exact List.length_eq_zero_iff.1 om
section
variable {e:Nat}
theorem A1k (M':Nat->List (Nat×Value)) {t:Nat} {n:Int} (c0:List Value) (x0:β) {z:Value} {S:List Value->β->Prop} (j:S c0 x0) {l3:List β} (l:Fr N ds M a) (m:St w0 H w) (g:Bg ops N=true) (q:EffAt ops k M (Instr.makeSlice t (.int .i64 n) (.int .i64 n)))
  (o:Q4 P t e sz bytes=true) (s:(P.info? e).bind (·.zero)=some z) (p:fN sz c0=z.cells.toList) (c:mkI bytes n x0=some l3) (u:∀b,NextM ops k M (.slice (some ⟨b,0,none⟩) l3.length l3.length) (M' b))
  (next:∀b c3 w' a',Fr N ds (M' b) a'->All2 S c3 l3->St w0 (arr e sz (fN sz) (some ⟨b,0,none⟩) l3.length l3.length c3::H) w'->K a' w'):SK P r ops k K a w:=by
 obtain ⟨h0,rfl,hb,v⟩:=A1n c;have d:(List.replicate n.toNat x0).length=(List.replicate n.toNat c0).length:=by simp
 have i:mkI bytes n c0=some (List.replicate n.toNat c0):=by
  unfold mkI at c ⊢
  split at c
  ·rename_i h;rw [if_pos h]
  ·cases c
 refine A2z (e:=e) (sz:=sz) (f:=fN sz) M' c0 l m g q o s p i (λb=>by rw [←d];exact u b) λb w' a' l m=>?_;refine next b _ w' a' l (All2.rep j n.toNat) ?_
 rw [d];exact m
end
end Go.Eng
namespace Go.Eng
open Go Go.RowKit Go.Proofs Go.Sort Go.Shelf
variable {α β γ κ:Type} {o:Oper} {f:α->List Value} {r:Option Nat} {d x u:α} {c l xs l' l3:List α} {P:Program} {T:World->World->Prop} {D:World->Prop} {w w' w0:World} {cs args:Array Value} {k sz cap b n m j N bytes id:Nat} {ad sad:Option Addr} {a a':Act} {μ ν:Frz} {H Rs:List Res} {R:Ending->World->Prop} {ys:List β} {ops:Array Oper} {Q:Exit->Act->World->Prop} {K K':Act->World->Prop} {ds:List Deferred} {M M':List (Nat×Value)} {v:Value} {tt kt:TypeId} {eff rest done:List Nat} {obs:List Ob} {lo hi:Int} {css:List (List α)} {S:α->β->Prop} {fn:Func} {ch:List PanicEntry} {fs:Array Field} {L:List (List β)} {kf:κ->Value} {es:List MapEntry} {ρ:Operand->Value} {news:List Value}
section
variable [Inhabited α]
def Z8 (cf:α->α->Int) (l:List α):List α:=(pdq (ltOf cf) l.toArray 0 l.length (Lib.bitLen l.length) true true).toList
theorem A0a (cf:α->α->Int) (k:SWO (ltOf cf)) (l:List α):(Z8 cf l).length=l.length/\(Z8 cf l).Perm l/\(Z8 cf l).Pairwise (λx y=>ltOf cf y x=false):=by
 have h:=pdq_sorts (ltOf cf) k l.toArray 0 l.toArray.size (Lib.bitLen l.toArray.size) true true (Nat.zero_le _) (Nat.le_refl _) (Or.inl rfl);have e:l.toArray.size=l.length:=by simp
 rw [e] at h;obtain ⟨⟨m,_,g⟩,n⟩:=h;unfold Z8;generalize pdq (ltOf cf) l.toArray 0 l.length (Lib.bitLen l.length) true true=d at *;have hd:d.size=l.length:=by simpa using m
 refine ⟨by simpa using hd,?_,?_⟩
 ·have e1:(d.extract 0 l.length).toList=d.toList:=by rw [←hd];simp
  have e2:(l.toArray.extract 0 l.length).toList=l:=by simp
  rw [e1,e2] at g;exact g
 ·rw [List.pairwise_iff_getElem];intro i j hi hj b;have c:i<d.size:=by simpa using hi
  have f:j<d.size:=by simpa using hj
  have:=n i j (Nat.zero_le _) b om;rw [getElem!_pos d i c,getElem!_pos d j f] at this
  simpa using this
end
section
variable [Inhabited α] {enc:α->List Value} {e:Nat}
theorem A1c (c:∀x,(enc x).length=k) (h0:0<k) (d:Array α):(flatK enc k d).toList=d.toList.flatMap enc:=by
 apply List.ext_getElem?;intro j
 by_cases hj:j<d.size*k
 ·have hd:j/k<d.size:=Nat.div_lt_of_lt_mul (by rwa [Nat.mul_comm]);have hm:=Nat.mod_lt j h0;have e1:(flatK enc k d).toList[j]? = some (flatK enc k d)[j]!:=by
   rw [Array.getElem?_toList,getElem!_pos (flatK enc k d) j (by simpa using hj),Array.getElem?_eq_getElem (by simpa using hj)]
  rw [e1,get_flatK enc k d j hj];have e:j=j/k*k+j%k:=by rw [Nat.mul_comm];exact (Nat.div_add_mod j k).symm
  have f:d.toList[j/k]? = some d[j/k]!:=by
   rw [Array.getElem?_toList,getElem!_pos d (j/k) hd,Array.getElem?_eq_getElem hd]
  conv=>rhs;rw [e]
  rw [Vz c d.toList _ _ _ f hm];have b:j%k<(enc d[j/k]!).length:=by rw [c];exact hm
  rw [getElem!_pos (enc d[j/k]!) (j%k) b,List.getElem?_eq_getElem b]
 ·rw [List.getElem?_eq_none (by simpa using Nat.le_of_not_lt hj),List.getElem?_eq_none];rw [Kr c]
  simpa using Nat.le_of_not_lt hj
theorem Zh (r:∀x,(enc x).length=k) (h0:0<k) (h:(arr e k enc (some ⟨b,0,none⟩) n cap l).holds w):HoldsK enc k w b 0 l.toArray/\b<w.heap.size:=by
 obtain ⟨hn,u,h⟩:=h;rcases h with ⟨h,_⟩|⟨g,cap',cur,s,_,d,f,t,i,m⟩
 ·cases h
 ·cases s
  refine ⟨?_,(Array.getElem?_eq_some_iff.1 d).1⟩;intro j hj;simp only [size_flatK,List.size_toArray] at hj;have o:(flatK enc k l.toArray).toList=l.flatMap enc:=A1c r h0 _;have c:j<n*k:=by rw [←hn];exact hj
  have p:j<cur.size:=by rw [i];exact Nat.lt_of_lt_of_le c (Nat.mul_le_mul_right k f)
  have e1:cur[j]? = some (flatK enc k l.toArray)[j]!:=by
   have q:(cur.toList.take (n*k))[j]? = cur.toList[j]?:=List.getElem?_take_of_lt c;rw [m,←o] at q;rw [←Array.getElem?_toList,←q,Array.getElem?_toList,getElem!_pos (flatK enc k l.toArray) j (by simpa using hj),Array.getElem?_eq_getElem (by simpa using hj)]
  rw [Nat.zero_add];constructor
  ·simp [World.cell?,d,e1]
  ·simp [World.frozen?,d]
theorem A47 (q:∀x,(enc x).length=k) (h0:0<k) (h:(arr e k enc (some ⟨b,0,none⟩) n cap l).holds w) (d':Array α) (hd:d'.size=n) (m:Nat) (os:Array Obj) :
  (arr e k enc (some ⟨b,0,none⟩) n cap d'.toList).holds (sortWorldK enc k w b 0 m d' os):=by
 obtain ⟨hn,v,h⟩:=h;rcases h with ⟨h,_⟩|⟨g,cap',cur,t,i,r,c,o,d,u⟩
 ·cases h
 ·cases t
  refine ⟨by simpa using hd,by rw [Kr q];simp [hd],.inr ⟨b,cap,putCells id 0 (flatK enc k d') cur,rfl,i,?_,c,o,by simp [putCells,d],?_⟩⟩
  ·have p:=(Array.getElem?_eq_some_iff.1 r).1;show ((w.heap.modify b (onCells (putCells id 0 (flatK enc k d'))))++os)[b]? = _;rw [Array.getElem?_append_left (by simpa using p),Array.getElem?_modify,if_pos rfl,r];rfl
  ·rw [←A1c q h0];apply List.ext_getElem?;intro j
   by_cases hj:j<n*k
   ·have f:j<cur.size:=by rw [d];exact Nat.lt_of_lt_of_le hj (Nat.mul_le_mul_right k c)
    rw [List.getElem?_take_of_lt hj];have s:j<(flatK enc k d').size:=by simp [hd];exact hj
    simp only [putCells,Array.getElem?_toList,Array.getElem?_mapIdx,Array.getElem?_eq_getElem f,Option.map_some];rw [if_pos ⟨Nat.zero_le _,om⟩,Array.getElem?_eq_getElem s,Nat.sub_zero,getElem!_pos (flatK enc k d') j s];rfl
   ·rw [List.getElem?_eq_none (by simp;omega),List.getElem?_eq_none (by simp [hd];omega)]
theorem Zu {i:Nat} (c:∀x,(enc x).length=k) (h0:0<k) (f:St w0 H w) (hi:H[i]? = some (arr e k enc (some ⟨b,0,none⟩) n cap l)) (d':Array α) (hd:d'.size=n) (m:Nat) (os:Array Obj) :
  St w0 (H.set i (arr e k enc (some ⟨b,0,none⟩) n cap d'.toList)) (sortWorldK enc k w b 0 m d' os):=by
 have g:=f.holds _ (List.mem_of_getElem? hi);refine f.upd hi rfl rfl rfl ?_ ?_ (A47 c h0 g d' hd m os) (λk c=>.inl c)
 ·show w.heap.size<=((w.heap.modify b (onCells (putCells id 0 (flatK enc k d'))))++os).size;simp
 ·intro j hj o;have d:b≠j:=λh=>o (by subst h;rfl);show ((w.heap.modify b (onCells (putCells id 0 (flatK enc k d'))))++os)[j]? = _;rw [Array.getElem?_append_left (by simpa using hj),Array.getElem?_modify,if_neg d]
end
def Ts (α:Type) (n:Nat):Type:={l:List α // l.length=n}
instance {α:Type} {n:Nat} [DecidableEq α]:DecidableEq (Ts α n):=λa b=>if h:a.1=b.1 then isTrue (Subtype.ext h) else isFalse (λe=>h (by rw [e]))
instance {α:Type} {n:Nat} [Inhabited α]:Inhabited (Ts α n):=⟨⟨List.replicate n default,List.length_replicate⟩⟩
section
variable (f:α->Value)
def vF (x:Ts α n):List Value:=x.1.map f
theorem A75 (x:Ts α n):(vF f x).length=n:=by unfold vF;rw [List.length_map];exact x.2
def A4u (x:Ts α n) (i:Int):Option α:=Av x.1 i
theorem A8y {x:Ts α n} {i:Int} (h:A4u x i=some u):0<=i/\i<n/\x.1[i.toNat]? = some u:=by
 obtain ⟨c,b,d⟩:=P2 h;rw [x.2] at b;exact ⟨c,b,d⟩
end
section
variable {cs:List Cd} {f:α->Value} {x:Ts α n} {i:Int}
def A7e (P:Program) (t n:Nat):Bool:=match P.underlying t with
 | some (.array m e)=>Nat.beq m n&&(match pureSem P (sizeOf e) with|some k=>Nat.beq k 1|none=>false)
 | _=>false
theorem A11 {t:Nat} (h:A7e P t n=true):∃e,P.underlying t=some (.array n e)/\∀w,(sizeOf e).run P w=.ok 1 w:=by
 unfold A7e at h
 split at h
 ·rename_i m e c
  rw [Bool.and_eq_true] at h;have hm:=Nat.eq_of_beq_eq_true h.1;subst hm;refine ⟨e,c,λw=>?_⟩
  cases b:pureSem P (sizeOf e) with
  | none=>rw [b] at h;simp at h
  | some k =>
   rw [b] at h;have d:=Nat.eq_of_beq_eq_true h.2;subst d;exact Bl _ _ b w
 ·cases h
theorem A9a {t:Nat} (c:Sw P t=some n) (h:Blk w b tt (vF f x).toArray):(loadVar t ⟨b,0,none⟩).run P w=.ok (.agg (vF f x).toArray) w :=
 Cb (cs:=vF f x) (by rw [A75];exact c) (h.cells sm)
end
section
variable {f:α->Value} {x y:Ts α n} {j:Int}
theorem B5z (M':List (Nat×Value)) (i:Nat) {t:TypeId} (m:∀u,(f u).oneCell'=true) (o:Fr N ds M a) (p:St w0 H w) (hi:H[i]? = some (blk b tt (vF f x).toArray)) (d:Bg ops N=true)
  (q:StoreAt ops k M t (.pointer (some ⟨b,0,none⟩)) (.agg (vF f y).toArray)) (g:pureSem P (sizeOf t)=some n)
  (s:NextM ops k M undef M') (next:∀w' a',Fr N ds M' a'->St w0 (H.set i (blk b tt (vF f y).toArray)) w'->K a' w'):SK P r ops k K a w:=by
 have j:=A75 f x;have c:=A75 f y;have e:(Value.agg (vF f y).toArray).cells=(vF f y).toArray:=rfl;refine Lk M' i (cs:=(vF f x).toArray) 0 (.agg (vF f y).toArray) (vF f y).toArray o p hi d q (by rw [e];simpa [c] using g) ?_ ?_ ?_ s next
 ·rw [e];apply List.all_eq_true.2;intro v l;simp [vF] at l;obtain ⟨u,_,rfl⟩:=l;exact m u
 ·rw [e];apply Nat.ble_eq_true_of_le;simp [j,c]
 ·rw [e];unfold Y1;simp [j,c]
end
section
variable {cs:List Cd} {t e:TypeId} {x y:Ts Bool n}
end
abbrev Hd:=Option Addr×Nat×Nat
variable {hd:List Hd}
def hdF (h:Hd):List Value:=[.slice h.1 h.2.1 h.2.2]
theorem Qr (h:Hd):(hdF h).length=1:=rfl
def P3:Hd:=(none,0,0)
def A0e (Rs:List Res):Res where
 foot:=λb=>∃R∈Rs,R.foot b
 holds:=λw=>(∀R∈Rs,R.holds w)/\Rs.Pairwise (λ(R S:Res)=>∀b:Nat,R.foot b->¬S.foot b)
 loc:=λw w' h hb=>⟨λR hR=>R.loc w w' (λb hf=>h b ⟨R,hR,hf⟩) (hb.1 R hR),hb.2⟩
 lt:=λw b hb hk=>by obtain ⟨R,hR,hf⟩:=hk;exact R.lt w b (hb.1 R hR) hf
section
theorem St.openG (h:St w0 (A0e Rs::H) w):St w0 (Rs++H) w:=by
 have hb:=h.holds _ (List.mem_cons_self ..);have d:=List.pairwise_cons.1 h.apart;refine ⟨h.ext,λR c=>?_,λR c b e=>?_,List.pairwise_append.2 ⟨hb.2,d.2,λR c S f b g i=>d.1 S f b ⟨R,c,g⟩ i⟩⟩
 ·rcases List.mem_append.1 c with c|c
  ·exact hb.1 R c
  ·exact h.holds R (List.mem_cons_of_mem _ c)
 ·rcases List.mem_append.1 c with c|c
  ·exact h.low _ (List.mem_cons_self ..) b ⟨R,c,e⟩
  ·exact h.low R (List.mem_cons_of_mem _ c) b e
theorem St.closeG (h:St w0 (Rs++H) w):St w0 (A0e Rs::H) w:=by
 have f:=List.pairwise_append.1 h.apart;refine ⟨h.ext,λR c=>?_,λR c b e=>?_,List.pairwise_cons.2 ⟨λS d b g i=>?_,f.2.1⟩⟩
 ·rcases List.mem_cons.1 c with rfl|c
  ·exact ⟨λS d=>h.holds S (List.mem_append_left _ d),f.1⟩
  ·exact h.holds R (List.mem_append_right _ c)
 ·rcases List.mem_cons.1 c with rfl|c
  ·obtain ⟨S,d,e⟩:=e;exact h.low S (List.mem_append_left _ d) b e
  ·exact h.low R (List.mem_append_right _ c) b e
 ·obtain ⟨R,c,g⟩:=g;exact f.2.2 R c S d b g i
end
def rwL {α:Type} (e sz:Nat) (f:α->List Value) (hd:List Hd) (xss:List (List α)):List Res:=List.zipWith (λ(h:Hd) x=>arr e sz f h.1 h.2.1 h.2.2 x) hd xss
def Qz {α:Type} (e sz:Nat) (f:α->List Value) (hd:List Hd) (xss:List (List α)):Res:=A0e (rwL e sz f hd xss)
section
variable {e:Nat} {xss:List (List α)} {i:Nat} {h:Hd} {x:List α}
theorem Z0 (b:hd[i]? = some h) (c:xss[i]? = some x):(rwL e sz f hd xss)[i]? = some (arr e sz f h.1 h.2.1 h.2.2 x):=by
 unfold rwL;rw [List.getElem?_zipWith,b,c]
theorem Z1 (hd:List Hd) (xss:List (List α)) (i:Nat) (h:Hd) (x:List α):rwL e sz f (hd.set i h) (xss.set i x)=(rwL e sz f hd xss).set i (arr e sz f h.1 h.2.1 h.2.2 x):=by
 unfold rwL;apply List.ext_getElem?;intro j;rw [List.getElem?_zipWith,List.getElem?_set,List.getElem?_set,List.getElem?_set,List.length_zipWith,List.getElem?_zipWith]
 by_cases b:i=j
 ·subst b
  by_cases c:i<hd.length
  ·by_cases d:i<xss.length
   ·have g:i<min hd.length xss.length:=om
    simp [c,d];omega
   ·have g:¬i<min hd.length xss.length:=om
    simp [c,d];omega
  ·have g:¬i<min hd.length xss.length:=om
   simp [c];omega
 ·simp only [if_neg b]
theorem St.nilRws (h:St w0 H w) (e sz:Nat) (f:α->List Value) (n:Nat):St w0 (Qz e sz f (List.replicate n P3) (List.replicate n ([]:List α))::H) w:=by
 apply St.closeG;have:rwL e sz f (List.replicate n P3) (List.replicate n ([]:List α))=List.replicate n (Go.Eng.arr e sz f none 0 0 ([]:List α)):=by
  unfold rwL;rw [List.zipWith_replicate,Nat.min_self];rfl
 rw [this]
 induction n with
 | zero=>exact h
 | succ n ih=>exact St.nilarr (ih (by unfold rwL;rw [List.zipWith_replicate,Nat.min_self];rfl)) e sz f
theorem St.putRow (i:Nat) (hi:i<hd.length) (j:hd.length=xss.length) (d:St w0 (Qz e sz f hd xss::Go.Eng.arr e sz f h.1 h.2.1 h.2.2 x::H) w):St w0 (Qz e sz f (hd.set i h) (xss.set i x)::H) w:=by
 apply St.closeG;have c:=d.openG;rw [Z1];have b:i<(rwL e sz f hd xss).length:=by unfold rwL;rw [List.length_zipWith];omega
 generalize rwL e sz f hd xss=Rs at c b ⊢;generalize Go.Eng.arr e sz f h.1 h.2.1 h.2.2 x=R at c ⊢;have hd':Rs=Rs.take i++Rs[i]::Rs.drop (i+1):=by rw [List.getElem_cons_drop,List.take_append_drop]
 rw [List.set_eq_take_append_cons_drop,if_pos b];have g:St w0 ((Rs.take i++Rs[i]::Rs.drop (i+1))++R::H) w:=by rw [←hd'];exact c
 refine (g.sub (H':=(Rs.take i++Rs.drop (i+1))++R::H) ?_).perm ?_
 ·exact List.Sublist.append (List.Sublist.append (List.Sublist.refl _) (List.sublist_cons_self ..)) (List.Sublist.refl _)
 ·rw [List.append_assoc,List.append_assoc];refine List.Perm.append_left _ ?_;exact List.perm_middle
theorem St.takeRow (j:hd[i]? = some h) (k:xss[i]? = some x) (l:St w0 (Qz e sz f hd xss::H) w):St w0 (Qz e sz f (hd.set i P3) (xss.set i [])::Go.Eng.arr e sz f h.1 h.2.1 h.2.2 x::H) w:=by
 have d:=l.openG;have g:=Z0 (e:=e) (sz:=sz) (f:=f) j k;apply St.closeG;rw [Z1];obtain ⟨b,c⟩:=List.getElem?_eq_some_iff.1 g;generalize rwL e sz f hd xss=Rs at d b c g ⊢;have hd':Rs=Rs.take i++Rs[i]::Rs.drop (i+1):=by rw [List.getElem_cons_drop,List.take_append_drop]
 rw [List.set_eq_take_append_cons_drop,if_pos b];rw [hd',c] at d;refine (St.nilarr d e sz f).perm ?_;rw [List.append_assoc,List.append_assoc];refine List.Perm.trans ?_ List.perm_middle.symm;refine List.Perm.cons _ ?_;refine List.Perm.trans (List.perm_middle) ?_;refine List.Perm.trans ?_ (List.Perm.append_left _ List.perm_middle.symm);exact List.perm_middle.symm
end
def NestOk {α β:Type} (S:α->β->Prop) (hd:List Hd) (css:List (List α)) (L:List (List β)):Prop:=All2 (λ(h:Hd) l=>h.2.1=l.length) hd L/\All2 (All2 S) css L
section
variable {L3:List (List β)} {i:Int} {u l3:List β}
theorem NestOk.nil:NestOk S [] ([]:List (List α)) ([]:List (List β)):=⟨.nil,.nil⟩
theorem NestOk.lenH (h:NestOk S hd css L):hd.length=L.length:=h.1.len
theorem NestOk.lenHC (h:NestOk S hd css L):hd.length=css.length:=h.1.len.trans h.2.len.symm
theorem NestOk.get (h:NestOk S hd css L) (d:Av L i=some u):∃(ad:Option Addr) (cap:Nat) (c:List α),Av hd i=some (ad,u.length,cap)/\hd[i.toNat]? = some (ad,u.length,cap)/\css[i.toNat]? = some c/\All2 S c u:=by
 obtain ⟨⟨ad,n,cap⟩,e,b⟩:=An h.1 d;obtain ⟨c,f,g⟩:=An h.2 d;have b:n=u.length:=b;subst b;exact ⟨ad,cap,c,e,(P2 e).2.2,(P2 f).2.2,g⟩
theorem Z2 (h:l[k]? = some x):l.set k x=l:=by
 obtain ⟨b,c⟩:=List.getElem?_eq_some_iff.1 h;rw [←c];exact List.set_getElem_self b
theorem All2.setL {R:α->β->Prop} {y:β} (h:All2 R xs ys) (c:xs[k]? = some x) (b:R x y):All2 R xs (ys.set k y):=by
 have:=h.set b k
 rwa [Z2 c] at this
theorem NestOk.set (h:NestOk S hd css L) {h0:Hd} (b:hd[i.toNat]? = some h0) (c:h0.2.1=l3.length) {c3:List α} (d:All2 S c3 l3) (e:Ka L i l3=some L3):NestOk S hd (css.set i.toNat c3) L3:=by
 obtain ⟨_,_,rfl⟩:=Rl e;exact ⟨h.1.setL b c,h.2.set d _⟩
theorem NestOk.put (h:NestOk S hd css L) {h0:Hd} (b:h0.2.1=l3.length) {c3:List α} (c:All2 S c3 l3) (d:Ka L i l3=some L3):NestOk S (hd.set i.toNat h0) (css.set i.toNat c3) L3:=by
 obtain ⟨_,_,rfl⟩:=Rl d;exact ⟨h.1.set (R:=λ(h:Hd) (l:List β)=>h.2.1=l.length) b _,h.2.set c _⟩
theorem NestOk.rep (n:Nat):NestOk S (List.replicate n P3) (List.replicate n ([]:List α)) (List.replicate n ([]:List β)) :=
 ⟨All2.rep (R:=λ(h:Hd) (l:List β)=>h.2.1=l.length) rfl n,All2.rep .nil n⟩
theorem NestOk.mono {R:Rel β} {css:List (List (List Value))} (c:R.Mono) (b:μ.le ν) (h:NestOk (R μ) hd css L):NestOk (R ν) hd css L :=
 ⟨h.1,h.2.imp λ_ _ h=>All2.mono c b h⟩
end
section
variable {e:Nat} {l l3:List β} {p:Nat}
theorem B8r (M':List (Nat×Value)) (i:Nat) {t eo:Nat} {j:Int} {L3:List (List β)} (u x:Hd) (b:hd.length=L.length) (g:Fr N ds M a) (m:St w0 H w) (hi:H[i]? = some (arr eo 1 hdF ad L.length cap hd)) (c:Bg ops N=true)
  (n:StoreAt ops k M t (.pointer (some (Ck ad j 1))) (.slice x.1 x.2.1 x.2.2)) (o:Av hd j=some u) (d:pureSem P (sizeOf t)=some 1) (e:Ka L j l=some L3) (p:NextM ops k M undef M')
  (next:∀w' a',Fr N ds M' a'->L.length=L3.length->St w0 (H.set i (arr eo 1 hdF ad L.length cap (hd.set j.toNat x))) w'->K a' w'):SK P r ops k K a w:=by
 obtain ⟨h0,q,rfl⟩:=Rl e;have f:Ka hd j x=some (hd.set j.toNat x):=by rw [Ka,if_pos om]
 refine A6v (l:=hd) M' i 0 u x (.slice x.1 x.2.1 x.2.2) g m (by rw [b];exact hi) c n Qr o rfl rfl d rfl f p ?_;intro w' a' g1 g2 g3;rw [b] at g3;exact next w' a' g1 sm g3
end
set_option maxRecDepth 10000
section
variable {ν:Type} [DecidableEq κ]
def ixM:List (κ×ν)->κ->Option Nat
 | [],_=>none
 | p::B,x=>if x=p.1 then some 0 else (ixM B x).map (·+1)
def lkM:List (κ×ν)->κ->Option ν
 | [],_=>none
 | p::B,x=>if x=p.1 then some p.2 else lkM B x
def upM:List (κ×ν)->κ->ν->List (κ×ν)
 | [],x,v=>[(x,v)]
 | p::B,x,v=>if x=p.1 then (x,v)::B else p::upM B x v
def Ud:List (κ×ν)->κ->List (κ×ν)
 | [],_=>[]
 | p::B,x=>if x=p.1 then B else p::Ud B x
end
def Vx {κ ν:Type} (kf:κ->Value) (vf:ν->Value) (es:List MapEntry) (B:List (κ×ν)):Prop:=All2 (λ(e:MapEntry) (p:κ×ν)=>e.key=kf p.1/\e.val=vf p.2) es B
def ixL {κ:Type} [DecidableEq κ]:List κ->κ->Option Nat
 | [],_=>none
 | p::B,x=>if x=p then some 0 else (ixL B x).map (·+1)
structure KeyOk (P:Program) {κ:Type} [DecidableEq κ] (kt:TypeId) (kf:κ->Value):Prop where
 ck:∀em x,pureSem P (Instr.checkKey em 10000 kt (kf x))=some ()
 bits:∀x,Instr.sameBits 10000 (kf x) (kf x)=true
 find:∀(x:κ) (es:List MapEntry) (ks:List κ),es.map (·.key)=ks.map kf->∀w,(Instr.findKey kt (kf x) es).run P w=.ok ((ixL ks x).bind λi=>(es[i]?).map λe=>(i,e.val)) w
structure KeyAsk (P:Program) {κ:Type} [DecidableEq κ] (kt:TypeId) (kf:κ->Value):Prop where
 ck:∀em x,pureSem P (Instr.checkKey em 10000 kt (kf x))=some ()
 bits:∀x,Instr.sameBits 10000 (kf x) (kf x)=true
 eq:∀x y w,(Op.equal kt (kf x) (kf y)).run P w=.ok (decide (x=y)) w
 now:∀x y,(pureSem P (underlying kt)).bind (λd=>Instr.sameNow d (kf x) (kf y))=none
 und:(pureSem P (underlying kt)).isSome=true
structure KeyNow (P:Program) {κ:Type} [DecidableEq κ] (kt:TypeId) (kf:κ->Value):Prop where
 ck:∀em x,pureSem P (Instr.checkKey em 10000 kt (kf x))=some ()
 bits:∀x,Instr.sameBits 10000 (kf x) (kf x)=true
 now:∀x y,(pureSem P (underlying kt)).bind (λd=>Instr.sameNow d (kf x) (kf y))=some (decide (x=y))
 und:(pureSem P (underlying kt)).isSome=true
section
variable {ν:Type} [DecidableEq κ] {vf:ν->Value}
theorem A8k (d:KeyAsk P kt kf) (x:κ) (w:World):∀{es:List MapEntry} {ks:List κ} (i:Nat),es.map (·.key)=ks.map kf->(Instr.findAsking kt (kf x) es i).run P w=.ok ((ixL ks x).bind λj=>(es[j]?).map λe=>(j+i,e.val)) w:=by
 intro es
 induction es with
 | nil =>
  intro ks i h
  cases ks with
  | nil=>rfl
  | cons _ _=>cases h
 | cons e es ih =>
  intro ks i h
  cases ks with
  | nil=>cases h
  | cons p ks =>
   simp only [List.map_cons,List.cons.injEq] at h;have c:=d.eq x p w;rw [←h.1] at c;unfold Instr.findAsking;simp only [Sem.run_bind,c,Result.andThen_ok];unfold ixL
   by_cases b:x=p
   ·rw [decide_eq_true b,if_pos b];simp
   ·rw [decide_eq_false b,if_neg b];have:=ih (i+1) h.2;simp only [Bool.false_eq_true,if_false];rw [this]
    cases ixL ks x with
    | none=>rfl
    | some j=>simp [Nat.add_assoc,Nat.add_comm 1 i]
theorem A69 {d:TypeDesc} (hn:∀x y:κ,Instr.sameNow d (kf x) (kf y)=some (decide (x=y))) (x:κ):∀{es:List MapEntry} {ks:List κ} (i:Nat),es.map (·.key)=ks.map kf->Instr.findNow d (kf x) es i=some ((ixL ks x).bind λj=>(es[j]?).map λe=>(j+i,e.val)):=by
 intro es
 induction es with
 | nil =>
  intro ks i h
  cases ks with
  | nil=>rfl
  | cons _ _=>cases h
 | cons e es ih =>
  intro ks i h
  cases ks with
  | nil=>cases h
  | cons p ks =>
   simp only [List.map_cons,List.cons.injEq] at h;have c:=hn x p;rw [←h.1] at c;unfold Instr.findNow;rw [c];unfold ixL
   by_cases b:x=p
   ·rw [decide_eq_true b,if_pos b];simp
   ·rw [decide_eq_false b,if_neg b];have:=ih (i+1) h.2;simp only [];rw [this]
    cases ixL ks x with
    | none=>rfl
    | some j=>simp [Nat.add_assoc,Nat.add_comm 1 i]
theorem KeyAsk.ok (b:KeyAsk P kt kf):KeyOk P kt kf:=by
 refine ⟨b.ck,b.bits,λx es ks h=>?_⟩;intro w;unfold Instr.findKey;obtain ⟨d,hd⟩:=Option.isSome_iff_exists.1 b.und;have c:=Bl _ _ hd w;simp only [Sem.run_bind,c,Result.andThen_ok]
 cases es with
 | nil =>
  cases ks with
  | nil=>rfl
  | cons _ _=>cases h
 | cons e es =>
  cases ks with
  | nil=>cases h
  | cons p ks =>
   have hn:=b.now x p;have f:e.key=kf p:=by simp only [List.map_cons,List.cons.injEq] at h;exact h.1
   rw [hd,Option.bind_some,←f] at hn;have:Instr.findNow d (kf x) (e::es) 0=none:=by
    unfold Instr.findNow;rw [hn]
   rw [this];exact A8k b x w 0 h
theorem KeyNow.ok (b:KeyNow P kt kf):KeyOk P kt kf:=by
 refine ⟨b.ck,b.bits,λx es ks h=>?_⟩;intro w;unfold Instr.findKey;obtain ⟨d,hd⟩:=Option.isSome_iff_exists.1 b.und;have c:=Bl _ _ hd w;simp only [Sem.run_bind,c,Result.andThen_ok];have:=A69 (kf:=kf) (d:=d) (λx y=>by have:=b.now x y;rw [hd] at this;exact this) x 0 h;rw [this];rfl
theorem B0w {B:List (κ×ν)} (h:Vx kf vf es B):es.map (·.key)=(B.map (·.1)).map kf:=by
 induction h with
 | nil=>rfl
 | cons h _ ih=>simp only [List.map_cons,ih,h.1]
theorem B4g (B:List (κ×ν)) (x:κ):ixL (B.map (·.1)) x=ixM B x:=by
 induction B with
 | nil=>rfl
 | cons p B ih=>simp only [List.map_cons,ixL,ixM,ih]
theorem A7u {B:List (κ×ν)} {x:κ}:lkM B x=(ixM B x).bind λi=>(B[i]?).map (·.2):=by
 induction B with
 | nil=>rfl
 | cons p B ih =>
  unfold lkM ixM
  by_cases b:x=p.1
  ·simp [b]
  ·rw [if_neg b,if_neg b,ih]
   cases ixM B x<;>simp
theorem A0q {B:List (κ×ν)} (h:Vx kf vf es B) {i:Nat} {p:κ×ν} (b:B[i]? = some p):∃e,es[i]? = some e/\e.key=kf p.1/\e.val=vf p.2:=by
 induction h generalizing i with
 | nil=>simp at b
 | cons h _ ih =>
  cases i with
  | zero=>simp at b;subst b;exact ⟨_,rfl,h⟩
  | succ i=>obtain ⟨e,c,d⟩:=ih (by simpa using b);exact ⟨e,by simpa using c,d⟩
theorem Yi (g:KeyOk P kt kf) (x:κ) {B:List (κ×ν)} (h:Vx kf vf es B):∃r,(∀w,(Instr.findKey kt (kf x) es).run P w=.ok r w)/\r.map (·.1)=ixM B x/\(∀p,r=some p->∃v,lkM B x=some v/\p.2=vf v)/\(r=none->lkM B x=none):=by
 have c:=g.find x es _ (B0w h);rw [B4g] at c;refine ⟨_,c,?_⟩;rw [A7u]
 cases hi:ixM B x with
 | none=>simp
 | some i =>
  have d:∃p,B[i]? = some p:=by
   clear c h
   induction B generalizing i with
   | nil=>cases hi
   | cons q B ih =>
    unfold ixM at hi
    by_cases f:x=q.1
    ·rw [if_pos f] at hi;cases hi;exact ⟨q,rfl⟩
    ·rw [if_neg f] at hi;obtain ⟨j,hj,rfl⟩:=Option.map_eq_some_iff.1 hi;obtain ⟨p,b⟩:=ih j hj;exact ⟨p,by simpa using b⟩
  obtain ⟨p,b⟩:=d;obtain ⟨e,e1,e2,e3⟩:=A0q h b;simp only [Option.bind_some,e1,b,Option.map_some];exact ⟨trivial,λq k=>by cases k;exact ⟨p.2,rfl,e3⟩,λh=>by cases h⟩
theorem A1g {B:List (κ×ν)} {x:κ} {i:Nat} (h:ixM B x=some i):i<B.length/\∃p,B[i]? = some p/\p.1=x/\lkM B x=some p.2:=by
 induction B generalizing i with
 | nil=>cases h
 | cons p B ih =>
  unfold ixM at h
  by_cases b:x=p.1
  ·rw [if_pos b] at h
   cases h
   exact ⟨sm,p,rfl,b.symm,by unfold lkM;rw [if_pos b]⟩
  ·rw [if_neg b] at h;obtain ⟨j,hj,rfl⟩:=Option.map_eq_some_iff.1 h;obtain ⟨f,q,c,d,e⟩:=ih hj;exact ⟨by simp;omega,q,by simpa using c,d,by unfold lkM;rw [if_neg b];exact e⟩
theorem Vg {B:List (κ×ν)} {x:κ} {i:Nat} {v:ν} (h:ixM B x=some i):upM B x v=B.set i (x,v):=by
 induction B generalizing i with
 | nil=>cases h
 | cons p B ih =>
  unfold ixM at h;unfold upM
  by_cases b:x=p.1
  ·rw [if_pos b] at h ⊢
   cases h;rfl
  ·rw [if_neg b] at h ⊢;obtain ⟨j,hj,rfl⟩:=Option.map_eq_some_iff.1 h;rw [ih hj];rfl
theorem A0y {B:List (κ×ν)} {x:κ} {v:ν} (h:ixM B x=none):upM B x v=B++[(x,v)]:=by
 induction B with
 | nil=>rfl
 | cons p B ih =>
  unfold ixM at h;unfold upM
  by_cases b:x=p.1
  ·rw [if_pos b] at h;cases h
  ·rw [if_neg b] at h ⊢;rw [ih (Option.map_eq_none_iff.1 h)];rfl
theorem B0t {B:List (κ×ν)} {x:κ} {i:Nat} (h:ixM B x=some i):Ud B x=B.eraseIdx i:=by
 induction B generalizing i with
 | nil=>cases h
 | cons p B ih =>
  unfold ixM at h;unfold Ud
  by_cases b:x=p.1
  ·rw [if_pos b] at h ⊢
   cases h;rfl
  ·rw [if_neg b] at h ⊢;obtain ⟨j,hj,rfl⟩:=Option.map_eq_some_iff.1 h;rw [ih hj];rfl
theorem B0s {B:List (κ×ν)} {x:κ} (h:ixM B x=none):Ud B x=B:=by
 induction B with
 | nil=>rfl
 | cons p B ih =>
  unfold ixM at h;unfold Ud
  by_cases b:x=p.1
  ·rw [if_pos b] at h;cases h
  ·rw [if_neg b] at h ⊢;rw [ih (Option.map_eq_none_iff.1 h)]
end
def S9 {κ ν:Type} (kf:κ->Value) (vf:ν->Value) (m:Nat) (B:List (κ×ν)):Res where
 foot:=λk=>k=m
 holds:=λw=>∃(es:List MapEntry) (clock:Nat),w.heap[m]? = some (.map es.toArray clock)/\Vx kf vf es B/\(∀e∈es,e.born<clock)/\es.Pairwise (λa b=>a.born≠b.born)
 loc:=λw w' h hb=>by
  obtain ⟨es,clock,h1,h2⟩:=hb;exact ⟨es,clock,(h m rfl).trans h1,h2⟩
 lt:=λw k hb hk=>by
  subst hk;obtain ⟨es,clock,h1,_⟩:=hb;exact (Array.getElem?_eq_some_iff.1 h1).1
def A9e {κ ν:Type} [DecidableEq κ] (kf:κ->Value) (vf:ν->Value) (m:Nat) (B:List (κ×ν)) (x:κ) (s:Nat):Res where
 foot:=λk=>k=m
 holds:=λw=>∃(es:List MapEntry) (clock:Nat),w.heap[m]? = some (.map es.toArray clock)/\Vx kf vf es B/\(∀e∈es,e.born<clock)/\es.Pairwise (λa b=>a.born≠b.born)/\∃i e,ixM B x=some i/\es[i]? = some e/\e.born=s
 loc:=λw w' h hb=>by
  obtain ⟨es,clock,h1,h2⟩:=hb;exact ⟨es,clock,(h m rfl).trans h1,h2⟩
 lt:=λw k hb hk=>by
  subst hk;obtain ⟨es,clock,h1,_⟩:=hb;exact (Array.getElem?_eq_some_iff.1 h1).1
def effSemM (ρ:Operand->Value) (op:Op) (ty:TypeId):Option (Sem Value) :=
 match op with
 | .makeMap t r=>some (Instr.makeMap t (r.map ρ))
 | .lookup t x ix ok=>some (Instr.lookup t (ρ x) (ρ ix) ok)
 | .mapEntry t m k=>some (Instr.mapEntry t (ρ m) (ρ k))
 | .call { callee:=.builtin .delete,args,argTypes }=>some (Builtin.delete_ argTypes ty (args.map ρ))
 | _=>none
theorem A4q {s:Sem Value} (h:effSemM ρ o.op o.type=some s) (hr:s.run P w=.ok v w'):(execOp ρ o).run P w=.ok (.value v) w':=by
 unfold effSemM at h;unfold execOp
 split at h<;>rename_i b<;>simp only [Option.some.injEq,reduceCtorEq] at h<;>(try subst h)<;>rw [b]<;>simp [hr,resolve,invoke,builtin]
def uniSemM (ρ:Operand->Value) (op:Op):Option (Sem Unit) :=
 match op with
 | .mapUpdate t m k x=>some (Instr.mapUpdate t (ρ m) (ρ k) (ρ x))
 | .entryStore t m s x=>some (Instr.entryStore t (ρ m) (ρ s) (ρ x))
 | _=>none
theorem A5r {s:Sem Unit} (h:uniSemM ρ o.op=some s) (hr:s.run P w=.ok () w'):(execOp ρ o).run P w=.ok .skip w':=by
 unfold uniSemM at h;unfold execOp
 split at h<;>rename_i b<;>simp only [Option.some.injEq,reduceCtorEq] at h<;>(try subst h)<;>rw [b]<;>simp [hr]
structure EffM (ops:Array Oper) (k:Nat) (M:List (Nat×Value)) (s:Sem Value):Prop where
 eq:((plainAt ops k M).bind λo=>effSemM (rhoE (ofM M)) o.op o.type)=some s
structure UniM (ops:Array Oper) (k:Nat) (M:List (Nat×Value)) (s:Sem Unit):Prop where
 eq:((plainAt ops k M).bind λo=>uniSemM (rhoE (ofM M)) o.op)=some s
section
theorem A2r {s:Sem Value} (d:Fr N ds M a) (c:Bg ops N=true) (b:EffM ops k M s) (hr:s.run P w=.ok v w')
  (e:NextM ops k M v M') (next:∀a',Fr N ds M' a'->K a' w'):SK P r ops k K a w:=by
 have b:=b.eq
 cases ho:plainAt ops k M with
 | none=>rw [ho] at b;simp at b
 | some o =>
  rw [ho] at b;exact B4w d c ho (A4q b hr) e next
theorem B6h {s:Sem Unit} (d:Fr N ds M a) (c:Bg ops N=true) (b:UniM ops k M s) (hr:s.run P w=.ok () w')
  (e:NextM ops k M undef M') (next:∀a',Fr N ds M' a'->K a' w'):SK P r ops k K a w:=by
 have b:=b.eq
 cases ho:plainAt ops k M with
 | none=>rw [ho] at b;simp at b
 | some o =>
  rw [ho] at b;exact B6c d c ho (A5r b hr) e next
variable {ν:Type} [DecidableEq κ] {e t:TypeId} {vf:ν->Value} {B:List (κ×ν)} {x:κ} {v d:ν}
def Vi (P:Program) (t kt e:TypeId):Bool:=match P.underlying t with
 | some (.map a b)=>Nat.beq a kt&&Nat.beq b e
 | _=>false
theorem L5 (h:Vi P t kt e=true):P.underlying t=some (.map kt e):=by
 unfold Vi at h
 split at h
 ·rename_i a b c
  rw [Bool.and_eq_true] at h;rw [c,Nat.eq_of_beq_eq_true h.1,Nat.eq_of_beq_eq_true h.2]
 ·cases h
theorem Yw (κ ν:Type) (kf:κ->Value) (vf:ν->Value) (M':Nat->List (Nat×Value)) (f:Fr N ds M a) (g:St w0 H w) (c:Bg ops N=true) (i:EffM ops k M (Instr.makeMap t none)) (j:∀m,NextM ops k M (.map (some m)) (M' m))
  (next:∀m w' a',Fr N ds (M' m) a'->St w0 (S9 kf vf m ([]:List (κ×ν))::H) w'->K a' w'):SK P r ops k K a w:=by
 refine A2r f c i (v:=.map (some w.heap.size)) (w':=w.alloc (.map #[] 0)) ?_ (j _) ?_
 ·have hn:(newObj (.map #[] 0)).run P w=.ok w.heap.size (w.alloc (.map #[] 0)):=rfl;simp [Instr.makeMap,hn]
 ·intro a' d;refine next _ _ a' d (g.push (Wy w _) ⟨[],0,World.alloc_heap_new w _,.nil,λe he=>by simp at he,.nil⟩ (λb hb=>by rw [show b=w.heap.size from hb];exact Nat.le_refl _))
theorem A3u (M':List (Nat×Value)) (i:Nat) (x:κ) (d:ν) (g:KeyOk P kt kf) (y:Fr N ds M a) (z:St w0 H w) (hi:H[i]? = some (S9 kf vf m B)) (c:Bg ops N=true) (hs:EffM ops k M (Instr.lookup t (.map (some m)) (kf x) false)) (l:Vi P t kt e=true)
  (f:(P.info? e).bind (·.zero)=some (vf d)) (hM:NextM ops k M (vf ((lkM B x).getD d)) M') (next:∀a',Fr N ds M' a'->K a' w):SK P r ops k K a w:=by
 obtain ⟨es,clock,h1,h2,h3⟩:=z.res hi;refine A2r y c hs ?_ hM next
 obtain ⟨q,q1,q2,q3,q4⟩:=Yi g x h2;have n:=q1 w;have o:=Bl _ _ (g.ck es.isEmpty x) w;have s:=MapKept.run_getObj_map (P:=P) h1
 cases q with
 | some p =>
  obtain ⟨v,e1,e2⟩:=q3 p rfl;obtain ⟨j,u⟩:=p;have e2:u=vf v:=e2;subst e2;rw [e1];simp [Instr.lookup,run_underlying (L5 l),s,o,n]
 | none =>
  have e1:=q4 rfl
  cases b:P.info? e with
  | none=>rw [b] at f;simp at f
  | some inf =>
   rw [b] at f;simp at f;simp [Instr.lookup,run_underlying (L5 l),s,o,n,e1,zeroValue,typeInfo,b,f]
end
def Bo {α:Type} (eo e sz:Nat) (f:α->List Value) (ad:Option Addr) (n cap:Nat) (hd:List Hd) (css:List (List α)):Res:=A0e (arr eo 1 hdF ad n cap hd::rwL e sz f hd css)
section
variable {Rs':List Res} {i:Nat} {R:Res}
theorem Xf {i:Nat} (h:l[i]? = some x):l.Perm (x::l.eraseIdx i):=by
 obtain ⟨c,b⟩:=List.getElem?_eq_some_iff.1 h;have:l=l.take i++x::l.drop (i+1):=by rw [←b,List.getElem_cons_drop,List.take_append_drop]
 rw [List.eraseIdx_eq_take_drop_succ]
 conv=>lhs;rw [this]
 exact List.perm_middle
theorem St.openAt (h:St w0 H w) (hi:H[i]? = some (A0e Rs)):St w0 (Rs++H.eraseIdx i) w:=(h.perm (Xf hi)).openG
theorem St.closeAt (hi:i<H.length) (h:St w0 (Rs++H.eraseIdx i) w):St w0 (H.set i (A0e Rs)) w:=by
 refine (h.closeG).perm ?_;have:=Xf (l:=H.set i (A0e Rs)) (i:=i) (x:=A0e Rs) (by simp [hi]);rw [List.eraseIdx_set_eq] at this;exact this.symm
theorem A2y {i:Nat} (h:l[i]? = some x):i<l.length:=(List.getElem?_eq_some_iff.1 h).1
end
section
variable {eo e q:Nat} {hd':List Hd} {css':List (List α)} {h:Hd}
theorem E4 (hr:(Bo eo e sz f ad n cap hd css).holds w):Arr w 1 hdF ad n cap hd:=by
 have:=hr.1 _ (List.mem_cons_self ..);exact ⟨this.1,Sl.of_own this.2⟩
theorem Qs (hr:(Bo eo e sz f ad n cap hd css).holds w) (b:hd[q]? = some h) (d:css[q]? = some c):Arr w sz f h.1 h.2.1 h.2.2 c:=by
 have:=hr.1 _ (List.mem_cons_of_mem _ (List.mem_of_getElem? (Z0 (e:=e) (sz:=sz) (f:=f) b d)));exact ⟨this.1,Sl.of_own this.2⟩
theorem St.nilNest (b:St w0 H w) (eo e sz:Nat) (f:α->List Value):St w0 (Bo eo e sz f none 0 0 [] ([]:List (List α))::H) w:=by
 apply St.closeG;exact b.nilarr eo 1 hdF
theorem St.makeNest (b:St w0 (Go.Eng.arr eo 1 hdF ad n cap (List.replicate m P3)::H) w) (e sz:Nat) (f:α->List Value):St w0 (Bo eo e sz f ad n cap (List.replicate m P3) (List.replicate m ([]:List α))::H) w:=by
 apply St.closeG;have c:St w0 (Qz e sz f (List.replicate m P3) (List.replicate m ([]:List α))::Go.Eng.arr eo 1 hdF ad n cap (List.replicate m P3)::H) w:=St.nilRws b e sz f m;have d:=c.openG;exact d.perm (List.perm_middle)
theorem St.takeN (b:St w0 (Bo eo e sz f ad n cap hd css::H) w) (d:hd[q]? = some h) (g:css[q]? = some c) (hn:hd.length=n) :
  St w0 (Go.Eng.arr eo 1 hdF ad n cap hd::Qz e sz f (hd.set q P3) (css.set q [])::Go.Eng.arr e sz f h.1 h.2.1 h.2.2 c::H) w:=by
 have i:St w0 (Go.Eng.arr eo 1 hdF ad n cap hd::(rwL e sz f hd css++H)) w:=b.openG;have j:St w0 (Qz e sz f hd css::Go.Eng.arr eo 1 hdF ad n cap hd::H) w:=by
  apply St.closeG;exact i.perm (List.perm_middle.symm)
 have k:=St.takeRow d g j;exact k.perm ((List.Perm.cons _ (List.Perm.swap _ _ _)).trans (List.Perm.swap _ _ _))
theorem St.joinN (b:St w0 (Go.Eng.arr eo 1 hdF ad n cap hd::Qz e sz f hd css::H) w):St w0 (Bo eo e sz f ad n cap hd css::H) w:=by
 apply St.closeG;have c:=(b.perm (List.Perm.swap _ _ _)).openG;exact c.perm (List.perm_middle)
theorem St.splitN (b:St w0 (Bo eo e sz f ad n cap hd css::H) w):St w0 (Go.Eng.arr eo 1 hdF ad n cap hd::Qz e sz f hd css::H) w:=by
 have c:St w0 (Go.Eng.arr eo 1 hdF ad n cap hd::(rwL e sz f hd css++H)) w:=b.openG;have d:St w0 (Qz e sz f hd css::Go.Eng.arr eo 1 hdF ad n cap hd::H) w:=by
  apply St.closeG;exact c.perm (List.perm_middle.symm)
 exact d.perm (List.Perm.swap _ _ _)
theorem St.catRws (b:hd.length=css.length) (c:St w0 (Qz e sz f hd css::Qz e sz f hd' css'::H) w):St w0 (Qz e sz f (hd++hd') (css++css')::H) w:=by
 apply St.closeG;have d:St w0 (rwL e sz f hd css++(Qz e sz f hd' css'::H)) w:=c.openG;have g:=(d.perm List.perm_middle).openG;have:rwL e sz f (hd++hd') (css++css')=rwL e sz f hd css++rwL e sz f hd' css':=by unfold rwL;exact List.zipWith_append b
 rw [this];exact g.perm (by rw [←List.append_assoc];exact List.Perm.append_right _ List.perm_append_comm)
end
section
variable {eo e:Nat} {l l3:List β} {hd2:List Hd} {css2:List (List α)} {L3:List (List β)}
theorem NestOk.getE {L:List (List α)} {u:List α} {i:Int} (h:NestOk Eq hd css L) (b:Av L i=some u):∃(ad:Option Addr) (cap:Nat),Av hd i=some (ad,u.length,cap)/\hd[i.toNat]? = some (ad,u.length,cap)/\css[i.toNat]? = some u:=by
 obtain ⟨ad,cap,c,d,e,f,g⟩:=h.get b;have:c=u:=by
  clear d e f b
  induction g with
  | nil=>rfl
  | cons h _ ih=>rw [h,ih]
 subst this;exact ⟨ad,cap,d,e,f⟩
theorem Uc:∀(l:List α),All2 Eq l l
 | []=>.nil
 | _::l=>.cons rfl (Uc l)
theorem A87 (M':List (Nat×Value)) (i:Nat) (q:Int) {t:Nat} {j:Int} (off:Nat) (u u2:α) (x:β) (v:Value) {adi:Option Addr} {capi:Nat} (hq:NestOk S hd css L) (p:S u2 x) (hF:Fr N ds M a) (hS:St w0 H w) (hi:H[i]? = some (Bo eo e sz f ad L.length cap hd css)) (b:Bg ops N=true)
  (hs:StoreAt ops k M t (.pointer (some ((Ck adi j sz).add off))) v) (hf:∀x,(f x).length=sz) (s:hd[q.toNat]? = some (adi,l.length,capi)) (hc:css[q.toNat]? = some c) (y:All2 S c l) (hu:Av c j=some u) (hx:f u2=(f u).take off++v.cells.toList++(f u).drop (off+v.cells.toList.length)) (d:Nat.ble (off+v.cells.toList.length) sz=true)
  (z:pureSem P (sizeOf t)=some v.cells.size) (g:v.cells.toList.all Value.oneCell'=true) (b0:Ka l j x=some l3) (m:Ka L q l3=some L3) (hM:NextM ops k M undef M')
  (next:∀css3 w' a',Fr N ds M' a'->L.length=L3.length->l.length=l3.length->NestOk S hd css3 L3->St w0 (H.set i (Bo eo e sz f ad L.length cap hd css3)) w'->K a' w'):SK P r ops k K a w:=by
 have h1:=hS.openAt hi;have hg:=Z0 (e:=e) (sz:=sz) (f:=f) s hc;have n:=A2y hg;refine C0i M' (q.toNat+1) off u u2 x v y p hF h1 (by rw [List.cons_append,List.getElem?_cons_succ,List.getElem?_append_left n];exact hg) b hs hf hu hx d z g b0 hM ?_;intro c3 w' a' g1 g2 g3 g4;have o:L.length=L3.length:=by obtain ⟨_,_,rfl⟩:=Rl m;simp
 refine next (css.set q.toNat c3) w' a' g1 o g2 (hq.set s g2 g3 m) (St.closeAt (A2y hi) ?_)
 rw [List.cons_append,List.set_cons_succ,List.set_append_left _ _ n] at g4;have h2:=Z1 (e:=e) (sz:=sz) (f:=f) hd css q.toNat (adi,l.length,capi) c3;rw [Z2 s] at h2;rw [h2];exact g4
theorem A1u (M':List (Nat×Value)) (q:Int) {t:Nat} {adi:Option Addr} {capi:Nat} (o:NestOk S hd css L) (p:All2 S c l3) (y:Fr N ds M a) (z:St w0 (Go.Eng.arr eo 1 hdF ad L.length cap hd::Qz e sz f hd2 css2::Go.Eng.arr e sz f adi l3.length capi c::H) w)
  (d:hd2.set q.toNat (adi,l3.length,capi)=hd.set q.toNat (adi,l3.length,capi)) (g:css2.set q.toNat c=css.set q.toNat c) (i:Bg ops N=true)
  (hs:StoreAt ops k M t (.pointer (some (Ck ad q 1))) (.slice adi l3.length capi)) (s:pureSem P (sizeOf t)=some 1) (b:Ka L q l3=some L3) (hM:NextM ops k M undef M')
  (next:∀j css3 w' a',Fr N ds M' a'->L.length=L3.length->NestOk S j css3 L3->St w0 (Bo eo e sz f ad L.length cap j css3::H) w'->K a' w'):SK P r ops k K a w:=by
 have h0:=Rl b;have m:q.toNat<hd.length:=by rw [o.lenH];omega
 obtain ⟨u,hu⟩:∃u,Av hd q=some u:=by
  refine ⟨hd[q.toNat],?_⟩;unfold Av;rw [if_pos h0.1,List.getElem?_eq_getElem m]
 have n:hd2.length=hd.length:=by
  have:=congrArg List.length d
  simpa using this
 have v:css2.length=css.length:=by
  have:=congrArg List.length g
  simpa using this
 refine B8r M' 0 (L:=L) (l:=l3) u (adi,l3.length,capi) o.lenH y z rfl i hs hu s b hM ?_;intro w' a' g1 g2 g3;refine next (hd.set q.toNat (adi,l3.length,capi)) (css.set q.toNat c) w' a' g1 g2 (o.put (h0:=(adi,l3.length,capi)) rfl p b) (St.joinN ?_)
 have g4:=St.putRow (h:=(adi,l3.length,capi)) (e:=e) (sz:=sz) (f:=f) (x:=c) (hd:=hd2) (xss:=css2) (H:=Go.Eng.arr eo 1 hdF ad L.length cap (hd.set q.toNat (adi,l3.length,capi))::H) q.toNat (by rw [n];exact m) (by rw [n,v];exact o.lenHC) (g3.perm ?_)
 ·rw [d,g] at g4;exact g4.perm (List.Perm.swap _ _ _)
 ·show List.Perm (Go.Eng.arr eo 1 hdF ad L.length cap (hd.set q.toNat (adi,l3.length,capi))::Qz e sz f hd2 css2::Go.Eng.arr e sz f adi l3.length capi c::H) _;exact (List.Perm.swap _ _ _).trans (List.Perm.cons _ (List.Perm.swap _ _ _))
theorem B1g (hd:List Hd):hd.flatMap hdF=(hd.map hdF).flatMap (fN 1):=by
 rw [List.flatMap_map];rfl
theorem A54 {R:Rel (List β)} (d:∀w,FrzAt ν w->(Bo eo e sz f ad L.length cap hd css).holds w) (k:NestOk S hd css L)
  (m:∀(ad:Option Addr) (cap:Nat) (c:List α) (x:List β),(∀w,FrzAt ν w->Arr w sz f ad x.length cap c)->All2 S c x->R ν [.slice ad x.length cap] x):ArrQ ν 1 R ad cap (hd.map hdF) L:=by
 refine ⟨λw g=>?_,?_⟩
 ·have o:=E4 (d w g);have p:=k.lenH;refine ⟨sm,?_⟩;rw [List.length_map,←B1g,p];exact o.2
 ·obtain ⟨q1,q2⟩:=k;have b:∀(q:Nat) (h:Hd) (c:List α),hd[q]? = some h->css[q]? = some c->∀w,FrzAt ν w->Arr w sz f h.1 h.2.1 h.2.2 c:=λq h c i j w g=>Qs (d w g) i j
  clear d
  induction q1 generalizing css with
  | nil=>exact .nil
  | cons a1 a2 ih =>
   rename_i h l hd L
   cases q2 with
   | cons b1 b2 =>
    rename_i c css
    refine .cons ?_ (ih b2 λq h' c' i j=>b (q+1) h' c' (by simpa using i) (by simpa using j));have r:=b 0 h c rfl rfl;obtain ⟨ad,n,cap⟩:=h;have a1:n=l.length:=a1;subst a1;exact m ad cap c l r b1
end
section
variable {ν:Type} [DecidableEq κ] {vf:ν->Value} {B:List (κ×ν)} {x:κ} {v:ν} {clock:Nat}
def Stp (es:List MapEntry) (clock:Nat):Prop:=(∀e∈es,e.born<clock)/\es.Pairwise (λa b=>a.born≠b.born)
theorem A7k (h:Vx kf vf es B) (i:Nat) (u:ν) (b:∀p,B[i]? = some p->p.1=x):Vx kf vf (es.modify i λe=>{ e with key:=kf x,val:=vf v }) (B.modify i λ_=>(x,v)):=by
 induction h generalizing i with
 | nil=>simp;exact .nil
 | cons h c ih =>
  cases i with
  | zero=>simp only [List.modify_zero_cons];exact .cons ⟨rfl,rfl⟩ c
  | succ i=>simp only [List.modify_succ_cons];exact .cons h (ih i λp d=>b p (by simpa using d))
theorem A1o {i:Nat} {y:α}:l.modify i (λ_=>y)=l.set i y:=by
 induction l generalizing i with
 | nil=>simp
 | cons a l ih=>cases i<;>simp [ih]
theorem A89 (h:Stp es clock) (i:Nat) (f:MapEntry->MapEntry) (c:∀e,(f e).born=e.born):Stp (es.modify i f) clock:=by
 have hb:(es.modify i f).map (·.born)=es.map (·.born):=by
  clear h
  induction es generalizing i with
  | nil=>simp
  | cons e es ih=>cases i with
   | zero=>simp [c]
   | succ i=>simp [ih]
 obtain ⟨d,g⟩:=h;have e1:∀(l:List MapEntry),(∀e∈l,e.born<clock)↔∀b∈l.map (·.born),b<clock:=λl=>by simp
 have e2:∀(l:List MapEntry),l.Pairwise (λa b=>a.born≠b.born)↔(l.map (·.born)).Pairwise (·≠·):=λl=>by rw [List.pairwise_map]
 refine ⟨?_,?_⟩
 ·rw [e1,hb,←e1];exact d
 ·rw [e2,hb,←e2];exact g
theorem A5p (h:Stp es clock) (k w:Value):Stp (es++[{ key:=k,val:=w,born:=clock }]) (clock+1):=by
 refine ⟨λe he=>?_,?_⟩
 ·rcases List.mem_append.1 he with he|he
  ·have:=h.1 e he;omega
  ·simp at he;subst he;exact Nat.lt_succ_self _
 ·refine List.pairwise_append.2 ⟨h.2,List.pairwise_singleton _ _,λa c b hb=>?_⟩;simp at hb;subst hb;have:=h.1 a c;simp only;omega
theorem A9t (h:Stp es clock) (i:Nat):Stp (es.eraseIdx i) clock :=
 ⟨λe he=>h.1 e (List.mem_of_mem_eraseIdx he),h.2.sublist (List.eraseIdx_sublist ..)⟩
theorem A7j (h:Vx kf vf es B) {e:MapEntry} {p:κ×ν} (b:e.key=kf p.1) (c:e.val=vf p.2):Vx kf vf (es++[e]) (B++[p]):=All2.app h (.cons ⟨b,c⟩ .nil)
theorem A5x {R:α->β->Prop} (h:All2 R xs ys):∀i,All2 R (xs.eraseIdx i) (ys.eraseIdx i):=by
 induction h with
 | nil=>intro i;simp;exact .nil
 | cons h b ih=>intro i;cases i with
  | zero=>exact b
  | succ i=>exact .cons h (ih i)
theorem A7t {B:List (κ×ν)} {i:Nat} (h:ixM B x=some i):∀p,B[i]? = some p->p.1=x:=by
 obtain ⟨_,p,c,d,_⟩:=A1g h;intro q b;rw [c] at b;cases b;exact d
theorem B5n (l:List MapEntry) (i:Nat) (f:MapEntry->MapEntry):l.toArray.modify i f=(l.modify i f).toArray:=by
 apply Array.ext';simp
variable {t e:TypeId}
theorem B6e (hb:∀x,Instr.sameBits 10000 (kf x) (kf x)=true) (w:World):(Instr.keyThatStays (kf x) (kf x)).run P w=.ok (kf x) w:=by
 simp [Instr.keyThatStays,hb x]
theorem A6w (o:Obj) (hb:w.heap[m]? = some (.map es.toArray clock)):(setObj m o).run P w=.ok () (w.putObj m o):=MapKept.run_setObj_map o hb
theorem B5s (c:KeyOk P kt kf) (g:Vi P t kt e=true) (hb:w.heap[m]? = some (.map es.toArray clock)) (h:Vx kf vf es B) (i:Stp es clock) (x:κ) (v:ν) :
  ∃es' clock',(Instr.mapUpdate t (.map (some m)) (kf x) (vf v)).run P w=.ok () (w.putObj m (.map es'.toArray clock'))/\Vx kf vf es' (upM B x v)/\Stp es' clock':=by
 obtain ⟨q,q1,q2,q3,q4⟩:=Yi c x h;have k:=q1 w;have l:=Bl _ _ (c.ck false x) w;have n:=MapKept.run_getObj_map (P:=P) hb
 cases q with
 | some p =>
  obtain ⟨j,u⟩:=p;have hj:ixM B x=some j:=q2.symm;obtain ⟨o,p,r,d,s⟩:=A1g hj;obtain ⟨en,e1,e2,e3⟩:=A0q h r;rw [d] at e2;have f:=B6e (P:=P) (x:=x) c.bits w;refine ⟨es.modify j λe=>{ e with key:=kf x,val:=vf v },clock,?_,?_,A89 i j _ λ_=>rfl⟩
  ·have b:=A6w (P:=P) (.map (es.modify j λe=>{ e with key:=kf x,val:=vf v }).toArray clock) hb;simp [Instr.mapUpdate,run_underlying (L5 g),n,l,k,e1,e2,f,b]
  ·rw [Vg hj,←A1o];exact A7k h j v (A7t hj)
 | none =>
  have hj:ixM B x=none:=q2.symm;refine ⟨es++[{ key:=kf x,val:=vf v,born:=clock }],clock+1,?_,?_,A5p i _ _⟩
  ·have b:=A6w (P:=P) (.map (es++[({ key:=kf x,val:=vf v,born:=clock }:MapEntry)]).toArray (clock+1)) hb;simp [Instr.mapUpdate,run_underlying (L5 g),n,l,k,b]
  ·rw [A0y hj];exact A7j h rfl rfl
theorem B40 {ty:TypeId} (d:KeyOk P kt kf) (f:Vi P t kt e=true) (hb:w.heap[m]? = some (.map es.toArray clock)) (h:Vx kf vf es B) (g:Stp es clock) (x:κ) (tx:TypeId) :
  ∃es' clock',(Builtin.delete_ #[t,tx] ty #[.map (some m),kf x]).run P w=.ok (.tuple #[]) (w.putObj m (.map es'.toArray clock'))/\Vx kf vf es' (Ud B x)/\Stp es' clock':=by
 obtain ⟨q,q1,q2,q3,q4⟩:=Yi d x h;have i:=q1 w;have k:=Bl _ _ (d.ck es.isEmpty x) w;have l:=MapKept.run_getObj_map (P:=P) hb
 cases q with
 | some p =>
  obtain ⟨j,u⟩:=p;have hj:ixM B x=some j:=q2.symm;obtain ⟨c,p,s,o,r⟩:=A1g hj;have n:j<es.length:=by rw [All2.len h];exact c
  refine ⟨es.eraseIdx j,clock,?_,?_,A9t g j⟩
  ·have b:=A6w (P:=P) (.map (es.eraseIdx j).toArray clock) hb;simp [Builtin.delete_,run_underlying (L5 f),l,k,i,b]
  ·rw [B0t hj];exact A5x h j
 | none =>
  have hj:ixM B x=none:=q2.symm;refine ⟨es,clock,?_,by rw [B0s hj];exact h,g⟩;have b:=A6w (P:=P) (.map es.toArray clock) hb;simp [Builtin.delete_,run_underlying (L5 f),l,k,i,b]
theorem B43 (d:ν) (o:KeyOk P kt kf) (ht:Vi P t kt e=true) (n:(P.info? e).bind (·.zero)=some (vf d)) (hb:w.heap[m]? = some (.map es.toArray clock)) (h:Vx kf vf es B) (hs:Stp es clock) (x:κ) :
  ∃es' clock' s,(Instr.mapEntry t (.map (some m)) (kf x)).run P w=.ok (.tuple #[vf ((lkM B x).getD d),.int .i64 (s:Nat)]) (w.putObj m (.map es'.toArray clock'))/\Vx kf vf es' (upM B x ((lkM B x).getD d))/\Stp es' clock' /\
   ∃i en,ixM (upM B x ((lkM B x).getD d)) x=some i/\es'[i]? = some en/\en.born=s:=by
 obtain ⟨q,q1,q2,q3,q4⟩:=Yi o x h;have hq:=q1 w;have hc:=Bl _ _ (o.ck false x) w;have hg:=MapKept.run_getObj_map (P:=P) hb
 cases q with
 | some p =>
  obtain ⟨v,v1,v2⟩:=q3 _ rfl;obtain ⟨j,u⟩:=p;have v2:u=vf v:=v2;subst v2;have hj:ixM B x=some j:=q2.symm;obtain ⟨r,p,hp,g,y⟩:=A1g hj;obtain ⟨en,e1,e2,e3⟩:=A0q h hp;rw [g] at e2;have z:=B6e (P:=P) (x:=x) o.bits w;have hv:p.2=v:=by rw [y] at v1;cases v1;rfl
  have b:es.modify j (λe=>{ e with key:=kf x })=es:=by
   apply List.ext_getElem?;intro q
   by_cases c:j=q
   ·subst c;simp [List.getElem?_modify,e1,←e2]
   ·simp [List.getElem?_modify,c]
  have f:upM B x ((lkM B x).getD d)=B:=by
   rw [Vg hj,v1];apply List.ext_getElem?;intro q;rw [List.getElem?_set]
   by_cases c:j=q
   ·subst c;rw [if_pos rfl,if_pos r,hp];obtain ⟨p1,p2⟩:=p;simp only at g hv;subst g hv;rfl
   ·rw [if_neg c]
  refine ⟨es,clock,en.born,?_,by rw [f];exact h,hs,j,en,by rw [f];exact hj,e1,rfl⟩;have k:=A6w (P:=P) (.map es.toArray clock) hb;have e4:es.toArray.modify j (λe=>{ e with key:=kf x })=es.toArray:=by rw [B5n,b]
  simp [Instr.mapEntry,run_underlying (L5 ht),hg,hc,hq,e1,e2,z,b,k,v1,goInt]
 | none =>
  have hj:ixM B x=none:=q2.symm;have v1:=q4 rfl;have f:upM B x ((lkM B x).getD d)=B++[(x,d)]:=by rw [A0y hj,v1];rfl
  refine ⟨es++[{ key:=kf x,val:=vf d,born:=clock }],clock+1,clock,?_,by rw [f];exact A7j h rfl rfl,A5p hs _ _,B.length,{ key:=kf x,val:=vf d,born:=clock },?_,?_,rfl⟩
  ·have k:=A6w (P:=P) (.map (es++[({ key:=kf x,val:=vf d,born:=clock }:MapEntry)]).toArray (clock+1)) hb
   cases l:P.info? e with
   | none=>rw [l] at n;simp at n
   | some inf =>
    rw [l] at n;simp at n;simp [Instr.mapEntry,run_underlying (L5 ht),hg,hc,hq,k,v1,zeroValue,typeInfo,l,n,goInt]
  ·rw [f];have:∀(B:List (κ×ν)),ixM B x=none->ixM (B++[(x,d)]) x=some B.length:=by
    intro B
    induction B with
    | nil=>intro _;simp [ixM]
    | cons p B ih =>
     intro hn;unfold ixM at hn
     by_cases hx:x=p.1
     ·rw [if_pos hx] at hn;cases hn
     ·rw [if_neg hx] at hn;rw [List.cons_append,ixM,if_neg hx,ih (Option.map_eq_none_iff.1 hn)];rfl
   exact this B hj
  ·rw [←All2.len h,List.getElem?_append_right (Nat.le_refl _),Nat.sub_self];rfl
theorem B5h (h:Vx kf vf es B) (g:Stp es clock) (hb:w.heap[m]? = some (.map es.toArray clock)) {s i:Nat} {en:MapEntry} (hi:ixM B x=some i) (he:es[i]? = some en) (b:en.born=s) (v:ν) :
  ∃es',(Instr.entryStore t (.map (some m)) (.int .i64 (s:Nat)) (vf v)).run P w=.ok () (w.putObj m (.map es'.toArray clock))/\Vx kf vf es' (upM B x v)/\Stp es' clock:=by
 have l:=MapKept.run_getObj_map (P:=P) hb;have c:=(List.getElem?_eq_some_iff.1 he).1;have n:es.toArray.findIdx? (λe=>(e.born:Int)==(s:Int))=some i:=by
  rw [List.findIdx?_toArray,List.findIdx?_eq_some_iff_getElem];refine ⟨c,?_,λj hj=>?_⟩
  ·have:es[i]=en:=(List.getElem?_eq_some_iff.1 he).2;rw [this,b];simp
  ·have o:=List.pairwise_iff_getElem.1 g.2 j i om c hj;have:es[i]=en:=(List.getElem?_eq_some_iff.1 he).2;rw [this,b] at o;simp only [beq_iff_eq,Bool.not_eq_true];simp;omega
 refine ⟨es.modify i λe=>{ e with val:=vf v },?_,?_,A89 g i _ λ_=>rfl⟩
 ·have d:=A6w (P:=P) (.map (es.modify i λe=>{ e with val:=vf v }).toArray clock) hb;simp [Instr.entryStore,asInt,asIntOf,l,n,d]
 ·obtain ⟨_,p,r,f,_⟩:=A1g hi;obtain ⟨e',e1,e2,e3⟩:=A0q h r;rw [f] at e2;rw [Vg hi,←A1o];have:es.modify i (λe=>{ e with val:=vf v })=es.modify i (λe=>{ e with key:=kf x,val:=vf v }):=by
   apply List.ext_getElem?;intro q
   by_cases k:i=q
   ·subst k;simp [List.getElem?_modify,e1,←e2]
   ·simp [List.getElem?_modify,k]
  rw [this];exact A7k h i v (A7t hi)
end
section
variable {ν:Type} [DecidableEq κ] {e t:TypeId} {vf:ν->Value} {B:List (κ×ν)} {x:κ} {v d:ν}
theorem St.putMap {R R':Res} {i:Nat} {o o':Obj} (g:St w0 H w) (hi:H[i]? = some R) (ho:w.heap[m]? = some o) (f:∀k,R.foot k↔k=m) (b:R'.holds (w.putObj m o')) (c:∀k,R'.foot k->k=m):St w0 (H.set i R') (w.putObj m o'):=by
 refine g.upd hi rfl rfl rfl (by simp [World.putObj]) (λk _ d=>World.putObj_heap_other (λe=>d ((f k).2 e))) b (λk d=>.inl ((f k).2 (c k d)))
theorem A4b (M':List (Nat×Value)) (i:Nat) (x:κ) (v:ν) (g:KeyOk P kt kf) (j:Fr N ds M a) (f:St w0 H w) (hi:H[i]? = some (S9 kf vf m B)) (b:Bg ops N=true) (l:UniM ops k M (Instr.mapUpdate t (.map (some m)) (kf x) (vf v))) (n:Vi P t kt e=true)
  (o:NextM ops k M undef M') (next:∀w' a',Fr N ds M' a'->St w0 (H.set i (S9 kf vf m (upM B x v))) w'->K a' w'):SK P r ops k K a w:=by
 obtain ⟨es,clock,c,p,q⟩:=f.res hi;obtain ⟨es',clock',g1,g2,g3⟩:=B5s (w:=w) g n c p q x v;refine B6h j b l g1 o λa' d=>next _ a' d (f.putMap hi c (λ_=>Iff.rfl) ?_ λ_ h=>h)
 exact ⟨es',clock',World.putObj_heap_same (Array.getElem?_eq_some_iff.1 c).1,g2,g3⟩
theorem C0q (M':List (Nat×Value)) (i:Nat) (x:κ) {ty tx:TypeId} (g:KeyOk P kt kf) (j:Fr N ds M a) (f:St w0 H w) (hi:H[i]? = some (S9 kf vf m B)) (b:Bg ops N=true) (l:EffM ops k M (Builtin.delete_ #[t,tx] ty #[.map (some m),kf x])) (n:Vi P t kt e=true)
  (o:NextM ops k M (.tuple #[]) M') (next:∀w' a',Fr N ds M' a'->St w0 (H.set i (S9 kf vf m (Ud B x))) w'->K a' w'):SK P r ops k K a w:=by
 obtain ⟨es,clock,c,p,q⟩:=f.res hi;obtain ⟨es',clock',g1,g2,g3⟩:=B40 (w:=w) (ty:=ty) g n c p q x tx;refine A2r j b l g1 o λa' d=>next _ a' d (f.putMap hi c (λ_=>Iff.rfl) ?_ λ_ h=>h)
 exact ⟨es',clock',World.putObj_heap_same (Array.getElem?_eq_some_iff.1 c).1,g2,g3⟩
end
def hdV (h:Hd):Value:=.slice h.1 h.2.1 h.2.2
def Fh {κ α:Type} (kf:κ->Value) (e sz:Nat) (f:α->List Value) (m:Nat) (B:List (κ×Hd)) (css:List (List α)):Res:=A0e (S9 kf hdV m B::rwL e sz f (B.map (·.2)) css)
def A3w {κ α:Type} [DecidableEq κ] (kf:κ->Value) (e sz:Nat) (f:α->List Value) (m:Nat) (B:List (κ×Hd)) (css:List (List α)) (x:κ) (s i:Nat):Res:=A0e (A9e kf hdV m B x s::rwL e sz f ((B.map (·.2)).set i P3) (css.set i []))
def MNestOk {κ α β:Type} (S:α->β->Prop) (B:List (κ×Hd)) (css:List (List α)) (L:List (κ×List β)):Prop:=All2 (λ(h:κ×Hd) (p:κ×List β)=>h.1=p.1/\h.2.2.1=p.2.length) B L/\All2 (λc (p:κ×List β)=>All2 S c p.2) css L
section
variable [DecidableEq κ] {B:List (κ×Hd)} {L:List (κ×List β)} {x:κ} {i:Nat}
theorem MNestOk.nil:MNestOk S ([]:List (κ×Hd)) ([]:List (List α)) ([]:List (κ×List β)):=⟨.nil,.nil⟩
theorem MNestOk.mono {R:Rel β} {css:List (List (List Value))} (c:R.Mono) (b:μ.le ν) (h:MNestOk (R μ) B css L):MNestOk (R ν) B css L:=⟨h.1,h.2.imp λ_ _ h=>All2.mono c b h⟩
theorem MNestOk.ix (h:MNestOk S B css L) (x:κ):ixM B x=ixM L x:=by
 have b:=h.1
 clear h
 induction b with
 | nil=>rfl
 | cons h _ ih=>simp only [ixM,h.1,ih]
theorem A4e {δ:Type} {R:γ->δ->Prop} {xs:List γ} {ys:List δ} (h:All2 R xs ys) {i:Nat} {y:δ} (b:ys[i]? = some y):∃x,xs[i]? = some x/\R x y:=by
 induction h generalizing i with
 | nil=>simp at b
 | cons h _ ih=>cases i with
  | zero=>simp at b;subst b;exact ⟨_,rfl,h⟩
  | succ i=>obtain ⟨x,c,d⟩:=ih (by simpa using b);exact ⟨x,by simpa using c,d⟩
theorem MNestOk.at (h:MNestOk S B css L) (x:κ):(∃(i:Nat) (ad:Option Addr) (cap:Nat) (c:List α) (l:List β),ixM B x=some i/\B[i]? = some (x,(ad,l.length,cap))/\lkM B x=some (ad,l.length,cap)/\css[i]? = some c/\L[i]? = some (x,l)/\lkM L x=some l/\All2 S c l)\/(ixM B x=none/\ixM L x=none/\lkM B x=none/\lkM L x=none):=by
 have b:=h.ix x
 cases hi:ixM L x with
 | none =>
  rw [hi] at b;exact .inr ⟨b,rfl,by rw [A7u,b];rfl,by rw [A7u,hi];rfl⟩
 | some i =>
  rw [hi] at b;obtain ⟨g,p,e,d,f⟩:=A1g hi;obtain ⟨q,q1,q2,q3⟩:=A4e h.1 e;obtain ⟨c,c1,c2⟩:=A4e h.2 e;obtain ⟨k,l⟩:=p;obtain ⟨k',ad,n,cap⟩:=q;simp only at d q2 q3 c2;subst d q2 q3;exact .inl ⟨i,ad,cap,c,l,b,q1,by rw [A7u,b];simp [q1],c1,e,f,c2⟩
end
section
variable [DecidableEq κ] {e i:Nat} {B:List (κ×Hd)} {h:κ×Hd}
theorem B1y (hr:(Fh kf e sz f m B css).holds w) (b:B[i]? = some h) (d:css[i]? = some c):Arr w sz f h.2.1 h.2.2.1 h.2.2.2 c:=by
 have:=hr.1 _ (List.mem_cons_of_mem _ (List.mem_of_getElem? (Z0 (e:=e) (sz:=sz) (f:=f) (hd:=B.map (·.2)) (by rw [List.getElem?_map,b];rfl) d)));exact ⟨this.1,Sl.of_own this.2⟩
end
section
variable [DecidableEq κ] {kt te t e:Nat} {B:List (κ×Hd)} {L:List (κ×List β)} {x:κ}
theorem A9d (κ α:Type) (kf:κ->Value) (e sz:Nat) (f:α->List Value) (M':Nat->List (Nat×Value)) (c:Fr N ds M a) (d:St w0 H w) (b:Bg ops N=true) (g:EffM ops k M (Instr.makeMap t none)) (i:∀m,NextM ops k M (.map (some m)) (M' m))
  (next:∀m w' a',Fr N ds (M' m) a'->St w0 (Fh kf e sz f m [] ([]:List (List α))::H) w'->K a' w'):SK P r ops k K a w :=
 Yw κ Hd kf hdV M' c d b g i λm w' a' j l=>next m w' a' j (St.closeG l)
theorem B1u (M':Option Addr->Nat->List (Nat×Value)) (i:Nat) (x:κ) (n:KeyOk P kt kf) (v:MNestOk S B css L) (o:Fr N ds M a) (y:St w0 H w) (hi:H[i]? = some (Fh kf e sz f m B css)) (b:Bg ops N=true) (p:EffM ops k M (Instr.lookup t (.map (some m)) (kf x) false)) (q:Vi P t kt te=true)
  (s:(P.info? te).bind (·.zero)=some (.slice none 0 0)) (g:∀ad cap,NextM ops k M (.slice ad ((lkM L x).getD []).length cap) (M' ad cap))
  (next:∀ad cap c a',Fr N ds (M' ad cap) a'->All2 S c ((lkM L x).getD [])->(∀w',(Fh kf e sz f m B css).holds w'->Arr w' sz f ad ((lkM L x).getD []).length cap c)->K a' w):SK P r ops k K a w:=by
 have u:=y.openAt hi;rcases v.at x with ⟨j,ad,cap,c,l,q1,q2,q3,q4,q5,q6,q7⟩|⟨q1,q2,q3,q4⟩
 ·rw [q6] at g next
  refine A3u (M' ad cap) 0 x P3 n o u rfl b p q s (by rw [q3];exact g ad cap) ?_;intro a' d;exact next ad cap c a' d q7 λw' hr=>B1y hr q2 q4
 ·rw [q4] at g next
  refine A3u (M' none 0) 0 x P3 n o u rfl b p q s (by rw [q3];exact g none 0) ?_;intro a' d;exact next none 0 [] a' d .nil λw' _=>Arr.nil
theorem St.outG {X R:Res} (g:St w0 (X::(Rs++H)) w) (hj:Rs[j]? = some R) (e sz:Nat) (f:α->List Value):St w0 (A0e (X::Rs.set j (Go.Eng.arr e sz f none 0 0 ([]:List α)))::R::H) w:=by
 obtain ⟨b,c⟩:=List.getElem?_eq_some_iff.1 hj;have d:=g.nilarr e sz f;apply St.closeG;generalize Go.Eng.arr e sz f none 0 0 ([]:List α)=Z at d ⊢;have hd:Rs=Rs.take j++R::Rs.drop (j+1):=by rw [←c,List.getElem_cons_drop,List.take_append_drop]
 rw [List.set_eq_take_append_cons_drop,if_pos b];rw [hd] at d;refine d.perm ?_;have p1:(Rs.take j++R::Rs.drop (j+1)).Perm (R::(Rs.take j++Rs.drop (j+1))):=List.perm_middle;have p2:(Rs.take j++Z::Rs.drop (j+1)).Perm (Z::(Rs.take j++Rs.drop (j+1))):=List.perm_middle;generalize i:Rs.take j++Rs.drop (j+1)=AD at p1 p2;generalize Rs.take j++R::Rs.drop (j+1)=A1 at p1;generalize Rs.take j++Z::Rs.drop (j+1)=A2 at p2;have q1:(Z::X::(A1++H)).Perm (Z::X::R::(AD++H)):=.cons _ (.cons _ (p1.append_right H));have q2:(X::A2++R::H).Perm (X::Z::R::(AD++H)):=by
  refine List.Perm.cons _ ((p2.append_right _).trans ?_);exact List.Perm.cons _ List.perm_middle
 exact q1.trans ((List.Perm.swap _ _ _).trans q2.symm)
theorem St.inG {X R:Res} (b:St w0 (X::(Rs++R::H)) w) (hj:j<Rs.length):St w0 (A0e (X::Rs.set j R)::H) w:=by
 apply St.closeG;have hd:Rs=Rs.take j++Rs[j]::Rs.drop (j+1):=by rw [List.getElem_cons_drop,List.take_append_drop]
 rw [List.set_eq_take_append_cons_drop,if_pos hj];have c:St w0 (X::((Rs.take j++Rs[j]::Rs.drop (j+1))++R::H)) w:=by rw [←hd];exact b
 have d:St w0 (X::((Rs.take j++Rs.drop (j+1))++R::H)) w:=c.sub (.cons_cons _ (.append (.append (.refl _) (List.sublist_cons_self ..)) (.refl _)));refine d.perm ?_;have p2:(Rs.take j++R::Rs.drop (j+1)).Perm (R::(Rs.take j++Rs.drop (j+1))):=List.perm_middle;show List.Perm _ (X::((Rs.take j++R::Rs.drop (j+1))++H));exact .cons _ (List.perm_middle.trans (p2.append_right H).symm)
theorem A1l (M':Option Addr->Nat->Nat->List (Nat×Value)) (x:κ) (hk:KeyOk P kt kf) (o:MNestOk S B css L) (hF:Fr N ds M a) (hS:St w0 (Fh kf e sz f m B css::H) w) (g:Bg ops N=true) (hs:EffM ops k M (Instr.mapEntry t (.map (some m)) (kf x))) (ht:Vi P t kt te=true)
  (hz:(P.info? te).bind (·.zero)=some (.slice none 0 0)) (y:∀ad cap s,NextM ops k M (.tuple #[.slice ad ((lkM L x).getD []).length cap,.int .i64 ((s:Nat):Int)]) (M' ad cap s))
  (next:∀ad cap s j B' css' c w' a',Fr N ds (M' ad cap s) a'->MNestOk S B' css' (upM L x ((lkM L x).getD []))->ixM B' x=some j->All2 S c ((lkM L x).getD [])->St w0 (A3w kf e sz f m B' css' x s j::Go.Eng.arr e sz f ad ((lkM L x).getD []).length cap c::H) w'->K a' w'):SK P r ops k K a w:=by
 have v:St w0 (S9 kf hdV m B::(rwL e sz f (B.map (·.2)) css++H)) w:=hS.openG;have hi:(S9 kf hdV m B::(rwL e sz f (B.map (·.2)) css++H))[0]? = some (S9 kf hdV m B):=rfl;obtain ⟨es,clock,h1,h2,h3⟩:=v.res hi;obtain ⟨es',clock',s,g1,g2,g3,j,en,g4,g5,g6⟩:=B43 (w:=w) (d:=P3) hk ht hz h1 h2 h3 x;have z:St w0 (A9e kf hdV m (upM B x ((lkM B x).getD P3)) x s::(rwL e sz f (B.map (·.2)) css++H)) (w.putObj m (.map es'.toArray clock')) :=
  v.putMap (i:=0) hi h1 (λ_=>Iff.rfl) ⟨es',clock',World.putObj_heap_same (Array.getElem?_eq_some_iff.1 h1).1,g2,g3.1,g3.2,j,en,g4,g5,g6⟩ λ_ h=>h
 rcases o.at x with ⟨i,ad,cap,c,l,q1,q2,q3,q4,q5,q6,q7⟩|⟨q1,q2,q3,q4⟩
 ·have q:upM B x ((lkM B x).getD P3)=B:=by
   rw [Vg q1,q3];show B.set i (x,(ad,l.length,cap))=B;exact Z2 q2
  have b:upM L x l=L:=by
   rw [Vg ((o.ix x).symm.trans q1)];exact Z2 q5
  rw [q] at z g4;rw [q6] at y next
  rw [q3] at g1;have b1:j=i:=by rw [q1] at g4;cases g4;rfl
  subst b1;refine A2r hF g hs g1 (y ad cap s) λa' u=>next ad cap s j B css c _ a' u (by show MNestOk S B css (upM L x l);rw [b];exact o) q1 q7 ?_
  have h4:=St.outG z (Z0 (e:=e) (sz:=sz) (f:=f) (hd:=B.map (·.2)) (i:=j) (by rw [List.getElem?_map,q2];rfl) q4) e sz f;unfold A3w;rw [Z1];exact h4
 ·have q:upM B x ((lkM B x).getD P3)=B++[(x,P3)]:=by rw [A0y q1,q3];rfl
  have b:upM L x ([]:List β)=L++[(x,[])]:=A0y q2;rw [q] at z g4;rw [q4] at y next
  rw [q3] at g1;have n:B.length=css.length:=o.1.len.trans o.2.len.symm;have hj:j=B.length:=by
   have:∀(B:List (κ×Hd)),ixM B x=none->ixM (B++[(x,P3)]) x=some B.length:=by
    intro B
    induction B with
    | nil=>intro _;simp [ixM]
    | cons p B ih =>
     intro hn;unfold ixM at hn
     by_cases hx:x=p.1
     ·rw [if_pos hx] at hn;cases hn
     ·rw [if_neg hx] at hn;rw [List.cons_append,ixM,if_neg hx,ih (Option.map_eq_none_iff.1 hn)];rfl
   rw [this B q1] at g4;cases g4;rfl
  subst hj;refine A2r hF g hs g1 (y none 0 s) λa' u=>next none 0 s B.length (B++[(x,P3)]) (css++[[]]) [] _ a' u (by show MNestOk S _ _ (upM L x ([]:List β));rw [b];exact ⟨o.1.app (.cons ⟨rfl,rfl⟩ .nil),o.2.app (.cons .nil .nil)⟩) g4 .nil ?_
  have e1:((B++[(x,P3)]).map (·.2)).set B.length P3=B.map (·.2)++[P3]:=by simp
  have e2:(css++[([]:List α)]).set B.length []=css++[[]]:=by rw [n];simp
  unfold A3w;rw [e1,e2];apply St.closeG;have h4:=(z.nilarr e sz f).nilarr e sz f;have e3:rwL e sz f (B.map (·.2)++[P3]) (css++[[]])=rwL e sz f (B.map (·.2)) css++[Go.Eng.arr e sz f none 0 0 ([]:List α)]:=by
   unfold rwL;rw [List.zipWith_append (by simpa using n)];rfl
  rw [e3]
  change St w0 (_++(Go.Eng.arr e sz f none 0 0 ([]:List α)::H)) _
  refine h4.perm ?_;generalize Go.Eng.arr e sz f none 0 0 ([]:List α)=Z;generalize rwL e sz f (B.map (·.2)) css=Rs;generalize A9e kf hdV m (B++[(x,P3)]) x s=X;show (Z::Z::X::(Rs++H)).Perm (X::((Rs++[Z])++Z::H));rw [List.append_assoc];have p1:(Rs++([Z]++Z::H)).Perm (Z::Z::(Rs++H)):=List.perm_middle.trans (.cons _ List.perm_middle);exact ((List.Perm.cons _ (List.Perm.swap _ _ _)).trans (List.Perm.swap _ _ _)).trans (.cons _ p1.symm)
theorem B5q {ν:Type} (L:List (κ×ν)) (x:κ) (u v:ν):upM (upM L x u) x v=upM L x v:=by
 induction L with
 | nil=>simp [upM]
 | cons p L ih =>
  by_cases b:x=p.1
  ·simp [upM,b]
  ·have c:upM (p::L) x u=p::upM L x u:=by rw [upM,if_neg b]
   have d:upM (p::L) x v=p::upM L x v:=by rw [upM,if_neg b]
   rw [c,d,upM,if_neg b,ih]
theorem Yg (M':List (Nat×Value)) {s:Nat} {l0 l3:List β} (b:MNestOk S B css (upM L x l0)) (hj:ixM B x=some j) (l:All2 S c l3) (y:Fr N ds M a) (z:St w0 (A3w kf e sz f m B css x s j::Go.Eng.arr e sz f ad l3.length cap c::H) w) (d:Bg ops N=true)
  (hs:UniM ops k M (Instr.entryStore t (.map (some m)) (.int .i64 ((s:Nat):Int)) (.slice ad l3.length cap))) (hM:NextM ops k M undef M')
  (next:∀B' css' w' a',Fr N ds M' a'->MNestOk S B' css' (upM L x l3)->St w0 (Fh kf e sz f m B' css'::H) w'->K a' w'):SK P r ops k K a w:=by
 have g:St w0 (A9e kf hdV m B x s::(rwL e sz f ((B.map (·.2)).set j P3) (css.set j [])++Go.Eng.arr e sz f ad l3.length cap c::H)) w:=z.openG;have hi:(A9e kf hdV m B x s::(rwL e sz f ((B.map (·.2)).set j P3) (css.set j [])++Go.Eng.arr e sz f ad l3.length cap c::H))[0]? = some (A9e kf hdV m B x s):=rfl;obtain ⟨es,clock,n,h2,h3,h4,i,en,g4,g5,g6⟩:=g.res hi;obtain ⟨es',g1,g2,g3⟩:=B5h (P:=P) (t:=t) h2 ⟨h3,h4⟩ n g4 g5 g6 ((ad,l3.length,cap):Hd);have o:i=j:=by rw [hj] at g4;cases g4;rfl
 subst o;have hp:St w0 (S9 kf hdV m (upM B x (ad,l3.length,cap))::(rwL e sz f ((B.map (·.2)).set i P3) (css.set i [])++Go.Eng.arr e sz f ad l3.length cap c::H)) (w.putObj m (.map es'.toArray clock)) :=
  g.putMap (i:=0) hi n (λ_=>Iff.rfl) ⟨es',clock,World.putObj_heap_same (Array.getElem?_eq_some_iff.1 n).1,g2,g3.1,g3.2⟩ λ_ h=>h
 have b6:=(A1g hj).1;have b7:B.length=css.length:=b.1.len.trans b.2.len.symm;have p:i<(rwL e sz f ((B.map (·.2)).set i P3) (css.set i [])).length:=by unfold rwL;rw [List.length_zipWith];simp;omega
 refine B6h y d hs g1 hM λa' q=>next (B.set i (x,(ad,l3.length,cap))) (css.set i c) _ a' q ?_ ?_
 ·have hL:ixM (upM L x l0) x=some i:=(b.ix x).symm.trans hj;have u:upM L x l3=(upM L x l0).set i (x,l3):=by
   rw [←Vg hL,B5q]
  rw [u];exact ⟨b.1.set ⟨rfl,rfl⟩ i,b.2.set l i⟩
 ·have v:=St.inG hp p;rw [←Z1 (e:=e) (sz:=sz) (f:=f) _ _ i (ad,l3.length,cap) c,List.set_set,List.set_set,Vg hj] at v;unfold Fh;rw [List.map_set];exact v
end
theorem A7p (w:World) (o:Obj) (j:Nat) (h:j<w.heap.size):(w.alloc o).heap[j]? = w.heap[j]?:=by
 show (w.heap.push o)[j]? = _;rw [Array.getElem?_push,if_neg (Nat.ne_of_lt h)]
def arrT {α:Type} (e sz:Nat) (f:α->List Value) (ad:Option Addr) (n cap:Nat) (l:List α):Res where
 foot:=λk=>∃off,ad=some ⟨k,off,none⟩
 holds:=λw=>l.length=n/\(l.flatMap f).length=n*sz/\((ad=none/\n=0/\cap=0)\/∃g off cur fz,ad=some ⟨g,off,none⟩/\w.heap[g]? = some (.cells cur e fz)/\(fz=(0,0)\/cur.size<=fz.1)/\n<=cap/\cap<=maxLen/\off+cap*sz<=cur.size/\(cur.toList.drop off).take (n*sz)=l.flatMap f)
 loc:=λw w' h hb=>by
  refine ⟨hb.1,hb.2.1,?_⟩;rcases hb.2.2 with hn|⟨g,off,cur,fz,rfl,hg,rest⟩
  ·exact .inl hn
  ·exact .inr ⟨g,off,cur,fz,rfl,(h g ⟨off,rfl⟩).trans hg,rest⟩
 lt:=λw k hb hk=>by
  obtain ⟨off,rfl⟩:=hk;rcases hb.2.2 with ⟨hn,_⟩|⟨g,off',cur,fz,he,hg,_⟩
  ·cases hn
  ·cases he;exact (Array.getElem?_eq_some_iff.1 hg).1
section
variable {e i:Nat} {l2:List α}
theorem St.conv1 {R R':Res} (h:St w0 (R::H) w) (e:R'.holds w) (d:∀b,R'.foot b->R.foot b):St w0 (R'::H) w:=by
 refine ⟨h.ext,λS c=>?_,λS c b hb=>?_,?_⟩
 ·rcases List.mem_cons.1 c with rfl|c
  ·exact e
  ·exact h.holds S (List.mem_cons_of_mem _ c)
 ·rcases List.mem_cons.1 c with rfl|c
  ·exact h.low R (List.mem_cons_self ..) b (d b hb)
  ·exact h.low S (List.mem_cons_of_mem _ c) b hb
 ·have:=List.pairwise_cons.1 h.apart;exact List.pairwise_cons.2 ⟨λS c b f g=>this.1 S c b (d b f) g,this.2⟩
theorem St.nilT (h:St w0 H w) (e sz:Nat) (f:α->List Value):St w0 (arrT e sz f none 0 0 ([]:List α)::H) w :=
 h.push (Ext.refl w) ⟨rfl,sm,.inl ⟨rfl,rfl,rfl⟩⟩ (λb hb=>by obtain ⟨_,h⟩:=hb;cases h)
theorem B3t (h:(arrT e sz f ad n cap l).holds w):Arr w sz f ad n cap l:=by
 obtain ⟨o,p,q⟩:=h;refine ⟨o,ad,cap,rfl,p,?_⟩;rcases q with ⟨rfl,rfl,rfl⟩|⟨g,off,cur,fz,rfl,m,r,i,k,s,b⟩
 ·exact ⟨Nat.le_refl _,by simp [maxLen],λh=>by omega⟩
 ·refine ⟨i,k,λ_=>⟨_,rfl,(Array.getElem?_eq_some_iff.1 m).1,λj u c=>?_⟩⟩;have d:(⟨g,off,none⟩:Addr).add j=⟨g,off+j,none⟩:=by unfold Addr.add;split<;>simp_all
  rw [d];rw [←b,List.getElem?_take] at c
  split at c
  ·rw [List.getElem?_drop] at c;simp only [World.cell?,m]
   simpa using c
  ·cases c
theorem St.arrT_ {i:Nat} (h:St w0 H w) (hi:H[i]? = some (Go.Eng.arrT e sz f ad n cap l)):Arr w sz f ad n cap l:=B3t (h.holds _ (List.mem_of_getElem? hi))
theorem St.cutT (h:St w0 (arrT e sz f ad l.length cap l::H) w) (s:∀x,(f x).length=sz) (r:Sx l lo hi=some l2):St w0 (arrT e sz f (Gj ad cap lo.toNat sz) l2.length (cap-lo.toNat) l2::H) w:=by
 have hb:=h.holds _ (List.mem_cons_self ..);unfold Sx at r
 split at r
 ·rename_i hc
  cases r
  obtain ⟨_,hl,o⟩:=hb;have d:((l.drop lo.toNat).take (hi.toNat-lo.toNat)).length=hi.toNat-lo.toNat:=by rw [List.length_take,List.length_drop];omega
  refine h.conv1 ⟨rfl,Kr s _,?_⟩ ?_
  ·rcases o with ⟨rfl,h4,rfl⟩|⟨g,off,cur,fz,rfl,u,p,v,y,z,n⟩
   ·refine .inl ⟨?_,by rw [d];omega,om⟩;unfold Gj;split<;>rfl
   ·by_cases q:cap=lo.toNat
    ·refine .inr ⟨g,off,cur,fz,by unfold Gj;rw [if_pos q],u,p,by rw [d];omega,om,by
      have:(cap-lo.toNat)*sz<=cap*sz:=Nat.mul_le_mul_right _ (Nat.sub_le _ _);omega,?_⟩
     have h0:(l.drop lo.toNat).take (hi.toNat-lo.toNat)=[]:=List.eq_nil_of_length_eq_zero (by rw [d];omega);rw [h0];simp
    ·have b0:(cap-lo.toNat)*sz+lo.toNat*sz=cap*sz:=by rw [←Nat.add_mul];congr 1;omega
     refine .inr ⟨g,off+lo.toNat*sz,cur,fz,?_,u,p,by rw [d];omega,om,om,?_⟩
     ·unfold Gj;rw [if_neg q];show some ((⟨g,off,none⟩:Addr).add (lo.toNat*sz))=_;unfold Addr.add;split<;>simp_all
     ·have e1:(l.drop lo.toNat).flatMap f=(l.flatMap f).drop (lo.toNat*sz):=by
       have i:=Kr s (l.take lo.toNat);have t:l.flatMap f=(l.take lo.toNat).flatMap f++(l.drop lo.toNat).flatMap f:=by rw [←List.flatMap_append,List.take_append_drop]
       have o:(l.take lo.toNat).length=lo.toNat:=by rw [List.length_take];omega
       rw [t];exact (List.drop_left' (by rw [i,o])).symm
      have e2:∀(k:List α) (m:Nat),m<=k.length->(k.take m).flatMap f=(k.flatMap f).take (m*sz):=by
       intro k m hm;have i:=Kr s (k.take m);have o:(k.take m).length=m:=by rw [List.length_take];omega
       have t:k.flatMap f=(k.take m).flatMap f++(k.drop m).flatMap f:=by rw [←List.flatMap_append,List.take_append_drop]
       rw [t];exact (List.take_left' (by rw [i,o])).symm
      rw [e2 _ _ (by rw [List.length_drop];omega),e1,d,←n,List.drop_take,List.take_take,List.drop_drop]
      congr 1
      have:(hi.toNat-lo.toNat)*sz+lo.toNat*sz<=l.length*sz:=by rw [←Nat.add_mul];exact Nat.mul_le_mul_right _ om
      omega
  ·rintro b ⟨off,c⟩;unfold Gj at c
   split at c
   ·exact ⟨off,c⟩
   ·cases j:ad with
    | none=>rw [j] at c;cases c
    | some a =>
     rw [j] at c;rcases o with ⟨i,_⟩|⟨g,off',cur,fz,i,_⟩
     ·rw [j] at i;cases i
     ·rw [j] at i
      cases i
      have:(⟨g,off',none⟩:Addr).add (lo.toNat*sz)=⟨g,off'+lo.toNat*sz,none⟩:=by unfold Addr.add;split<;>simp_all
      simp only [Option.map_some,Option.some.injEq] at c;rw [this] at c
      cases c
      exact ⟨off',rfl⟩
 ·cases r
end
section
variable {e:Nat}
theorem A1w (g o:Nat) (t:TypeId) (fz:Nat×Nat):∀(vs:List Value) (i:Nat) (cur:Array Value) (w:World),w.heap[g]? = some (.cells cur t fz)->(fz=(0,0)\/cur.size<=fz.1)->o+i+vs.length<=cur.size->(∀v∈vs,v.oneCell'=true) ->
  (storeCells ⟨g,o,none⟩ vs i).run P w=.ok () (w.setRow g (cur.toList.take (o+i)++vs++cur.toList.drop (o+i+vs.length)).toArray)
 | [],i,cur,w,c,_,_,_=>by
  simp only [storeCells,List.append_nil,List.length_nil,Nat.add_zero,List.take_append_drop,Array.toArray_toList];rw [setRow_self w g cur t fz c];rfl
 | v::rest,i,cur,w,c,d,k,m=>by
  have hi:o+i<cur.size:=by simp at k;omega
  have f:(⟨g,o,none⟩:Addr).add i=⟨g,o+i,none⟩:=by unfold Addr.add;split<;>simp_all
  have b:w.cell? ⟨g,o+i,none⟩=some cur[o+i]:=by simp [World.cell?,c,hi]
  have j:w.frozen? ⟨g,o+i,none⟩=false:=by
   obtain ⟨x,y⟩:=fz;simp only [World.frozen?,c];rcases d with h|h
   ·cases h;simp
   ·simp only [Bool.and_eq_false_iff,decide_eq_false_iff_not];left;simp only at h;omega
  have l:(store ((⟨g,o,none⟩:Addr).add i) v).run P w=.ok () (w.setRow g (cur.setIfInBounds (o+i) v)):=by
   rw [f,run_store P w _ v _ (m v sm),b];simp [j,setCell_eq_setRow w g (o+i) cur t fz v c]
  have ih:=A1w g o t fz rest (i+1) (cur.setIfInBounds (o+i) v) (w.setRow g (cur.setIfInBounds (o+i) v)) (setRow_heap w g cur _ t _ c) (by simpa using d) (by simp at k ⊢;omega) (λx n=>m x (by simp [n]));simp only [storeCells,Sem.run_bind,l,Result.andThen_ok,ih,setRow_setRow]
  congr 3
  have e:=list_seg_step cur.toList (o+i) v rest (by simp at k ⊢;omega)
  simpa [Array.toList_setIfInBounds,Nat.add_assoc] using e
structure Src (P:Program) (w:World) (xt:TypeId) (sz:Nat) (x:Value) (n:Nat) (news:List Value):Prop where
 ty:∃u,P.underlying xt=some u/\((∃e,u=.slice e)\/u=.string)
 len:Builtin.lenOf x=pure n
 cells:∀w':World,(∀j,j<w.heap.size->w'.heap[j]? = w.heap[j]?)->(Builtin.firstCells sz n x).run P w'=.ok news.toArray w'
 size:news.length=n*sz
theorem Src.drew {xt:Nat} {x:Value} (h:Src P w xt sz x n news):(Builtin.firstCells sz n x).run P w.drew=.ok news.toArray w.drew:=h.cells w.drew (λ_ _=>rfl)
theorem Src.slice {xt u:Nat} (e:P.underlying xt=some (.slice u)) (g:Arr w sz f ad n cap l):Src P w xt sz (.slice ad n cap) n (l.flatMap f):=by
 obtain ⟨_,ad',cap',he,c,_,_,b⟩:=g
 cases he
 refine ⟨⟨_,e,.inl ⟨_,rfl⟩⟩,rfl,λw' i=>?_,c⟩
 by_cases hn:n=0
 ·subst hn;have:l.flatMap f=[]:=List.eq_nil_of_length_eq_zero (by rw [c];simp);rw [this]
  cases ad<;>simp [Builtin.firstCells,loadCells,loadCellsFrom]
 ·obtain ⟨a,rfl,hb,k⟩:=b om;refine run_firstCells_some (P:=P) w' sz n a n cap (l.flatMap f) c (λj u m=>?_);have h:=k j u m;have d:(a.add j).block<w.heap.size:=by rw [Uq];exact hb
  unfold World.cell? at h ⊢;rw [i _ d];exact h
def sby (s:ByteArray):List Int:=s.data.toList.map λb=>(b.toNat:Int)
theorem A0v (s:ByteArray):(sby s).length=s.size:=by unfold sby;rw [List.length_map];rfl
theorem B13 (g:β->Value) (l:List β):l.flatMap (λx=>[g x])=l.map g:=by induction l with|nil=>rfl|cons x l ih=>simp [List.flatMap_cons,ih]
theorem A6t (w:World) (t xt ty e:TypeId) (i:TypeInfo) (z:Value) (l:P.underlying t=some (.slice e)) (hi:P.info? e=some i) (m:i.zero=some z) {x:Value} (d:Src P w xt i.size x n news)
  (hn:0<n) (o:(n:Int)<=9223372036854775807) (k:Builtin.nextslicecap n 0*i.bytes<=281474976710656) :
  (Builtin.append_ #[t,xt] ty #[.slice none 0 0,x]).run P w=.ok (.slice (some ⟨w.heap.size,0,none⟩) n (grownCap w n 0 e)) (w.drew.alloc (.cells (news.toArray++Builtin.zeroCells z.cells (grownCap w n 0 e-n)) e)):=by
 obtain ⟨u,p,f⟩:=d.ty;have b:¬(9223372036854775807<(n:Int)):=om
 have c:¬(281474976710656<Builtin.nextslicecap n 0*i.bytes):=om
 have g:¬n=0:=om
 have hd:=d.drew;have j:∀w':World,(Builtin.firstCells i.size 0 (.slice none 0 0)).run P w'=.ok #[] w':=λ_=>rfl;rcases f with ⟨e',rfl⟩|rfl<;>simp [Builtin.append_,run_underlying l,run_underlying p,sizeOf,typeInfo,zeroValue,hi,m,d.len,g,b,c,Question.forced,hd,j,newRow,grownCap]
theorem A5f (w:World) (t xt ty e:TypeId) (i:TypeInfo) (z:Value) (o:P.underlying t=some (.slice e)) (hi:P.info? e=some i) (p:i.zero=some z) (b:Addr) (sLen sCap:Nat) (olds:List Value) (f:olds.length=sLen*i.size) (holds:∀j v,olds[j]? = some v->w.cell? (b.add j)=some v)
  {x:Value} (g:Src P w xt i.size x n news) (s:sCap<sLen+n) (q:((sLen+n:Nat):Int)<=9223372036854775807) (m:Builtin.nextslicecap (sLen+n) sCap*i.bytes<=281474976710656) :
  (Builtin.append_ #[t,xt] ty #[.slice (some b) sLen sCap,x]).run P w =
   .ok (.slice (some ⟨w.heap.size,0,none⟩) (sLen+n) (grownCap w (sLen+n) sCap e)) (w.drew.alloc (.cells (olds.toArray++news.toArray++Builtin.zeroCells z.cells (grownCap w (sLen+n) sCap e-(sLen+n))) e)):=by
 obtain ⟨u,r,k⟩:=g.ty;have hn:¬(sLen+n<=sCap):=om
 have c:¬(9223372036854775807<((sLen:Int)+(n:Int))):=om
 have d:¬(281474976710656<Builtin.nextslicecap (sLen+n) sCap*i.bytes):=om
 have hd:=g.drew;have l:=run_firstCells_some (P:=P) w.drew i.size sLen b sLen sCap olds f (by simpa using holds);rcases k with ⟨e',rfl⟩|rfl<;>simp [Builtin.append_,run_underlying o,run_underlying r,sizeOf,typeInfo,zeroValue,hi,p,g.len,hn,c,d,Question.forced,hd,l,newRow,grownCap]<;>simp [←Array.append_assoc]
theorem A5h (w w':World) (t xt ty e:TypeId) (i:TypeInfo) (f:P.underlying t=some (.slice e)) (hi:P.info? e=some i) (base:Addr) (sLen sCap:Nat)
  {x:Value} (b:Src P w xt i.size x n news) (hr:sLen+n<=sCap) (c:(storeCells (base.add (sLen*i.size)) news).run P w=.ok () w') :
  (Builtin.append_ #[t,xt] ty #[.slice (some base) sLen sCap,x]).run P w=.ok (.slice (some base) (sLen+n) sCap) w':=by
 obtain ⟨u,g,d⟩:=b.ty;have hd:=b.cells w (λ_ _=>rfl);rcases d with ⟨e',rfl⟩|rfl<;>simp [Builtin.append_,run_underlying f,run_underlying g,sizeOf,typeInfo,hi,b.len,hr,hd,c]
theorem A5g (w:World) (t xt ty e:TypeId) (i:TypeInfo) (d:P.underlying t=some (.slice e)) (hi:P.info? e=some i) {x:Value} (b:Src P w xt i.size x 0 news) :
  (Builtin.append_ #[t,xt] ty #[.slice none 0 0,x]).run P w=.ok (.slice none 0 0) w:=by
 obtain ⟨u,f,c⟩:=b.ty;have hd:=b.cells w (λ_ _=>rfl);rcases c with ⟨e',rfl⟩|rfl<;>simp [Builtin.append_,run_underlying d,run_underlying f,sizeOf,typeInfo,hi,b.len,hd]
theorem B9i (M':Option Addr->Nat->List (Nat×Value)) (i:Nat) {t xt ty:Nat} {x:Value} (hF:Fr N ds M a) (hS:St w0 H w) (hi:H[i]? = some (arrT e sz f ad l.length cap l)) (b1:Bg ops N=true)
  (hs:EffAt ops k M (Builtin.append_ #[t,xt] ty #[.slice ad l.length cap,x])) (c2:Q4 P t e sz bytes=true) (b:Src P w xt sz x l'.length (l'.flatMap f)) (h1:∀x∈l',(f x).all Value.oneCell'=true) (c3:apd bytes l l'=some l3)
  (hM:∀ad2 cap2,NextM ops k M (.slice ad2 l3.length cap2) (M' ad2 cap2))
  (next:∀ad2 cap2 w' a',Fr N ds (M' ad2 cap2) a'->St w0 (H.set i (arrT e sz f ad2 l3.length cap2 l3)) w'->K a' w'):SK P r ops k K a w:=by
 obtain ⟨rfl,hb,b2⟩:=Pg c3;have b3:=hS.holds _ (List.mem_of_getElem? hi);have c:(l++l').length=l.length+l'.length:=List.length_append;obtain ⟨_,s,h3⟩:=b3;obtain ⟨inf,z,ht,o,hz,b4,c5,c6,d4⟩:=T4 c2;subst b4 c5;have b5:∀u∈l'.flatMap f,u.oneCell'=true:=λu v=>by
  obtain ⟨x,hx,c8⟩:=List.mem_flatMap.1 v;exact List.all_eq_true.1 (h1 x hx) u c8
 have hl:=b.size;have fin:∀(ad2:Option Addr) (cap2:Nat) (w':World),(Builtin.append_ #[t,xt] ty #[.slice ad l.length cap,x]).run P w=.ok (.slice ad2 (l.length+l'.length) cap2) w' ->
   (arrT e inf.size f ad2 (l++l').length cap2 (l++l')).holds w'->w'.os=w.os->w'.tape=w.tape->w'.output=w.output->w.heap.size<=w'.heap.size->(∀j,j<w.heap.size->¬(Go.Eng.arrT e inf.size f ad l.length cap l).foot j->w'.heap[j]? = w.heap[j]?) ->
   (∀j,(Go.Eng.arrT e inf.size f ad2 (l++l').length cap2 (l++l')).foot j->(Go.Eng.arrT e inf.size f ad l.length cap l).foot j\/w.heap.size<=j)->SK P r ops k K a w:=by
  intro ad2 cap2 w' hr hh g1 g2 g3 g4 g5 g6;refine A8r hF b1 hs hr (by rw [←c];exact hM ad2 cap2) ?_;intro a' c9;exact next ad2 cap2 w' a' c9 (hS.upd hi g1 g2 g3 g4 g5 hh g6)
 have d:(l++l').flatMap f=l.flatMap f++l'.flatMap f:=List.flatMap_append;have y:((l++l').flatMap f).length=(l++l').length*inf.size:=by rw [d,List.length_append,s,hl,c,Nat.add_mul]
 have p:l.length+l'.length<=9223372036854775807:=by simp only [maxLen] at b2;omega
 have grown:∀(old:Nat),old<l.length+l'.length ->
   (Go.Eng.arrT e inf.size f (some ⟨w.heap.size,0,none⟩) (l++l').length (grownCap w (l.length+l'.length) old e) (l++l')).holds (w.drew.alloc (.cells ((l.flatMap f).toArray++(l'.flatMap f).toArray++Builtin.zeroCells z.cells (grownCap w (l.length+l'.length) old e-(l.length+l'.length))) e)):=by
  intro old ho;have d0:=grownCap_ge w (l.length+l'.length) old e;have b0:grownCap w (l.length+l'.length) old e<=maxLen:=grownCap_le_maxLen w (l.length+l'.length) old e b2;refine ⟨rfl,y,.inr ⟨w.heap.size,0,_,_,rfl,heap_alloc_new w.drew _,.inl rfl,by rw [c];exact d0,b0,?_,?_⟩⟩
  ·simp only [Array.size_append,List.size_toArray,size_zeroCells,c6,s,hl,←Nat.add_mul];rw [Nat.zero_add];exact Nat.mul_le_mul_right _ om
  ·simp only [Array.toList_append,List.drop_zero];rw [←y,d];exact List.take_left
 rcases h3 with ⟨rfl,h4,rfl⟩|⟨g,off,cur,fz,rfl,hg,b6,e4,b0,e5,n⟩
 ·have hx:l=[]:=List.eq_nil_of_length_eq_zero h4;subst hx
  by_cases hm:l'.length=0
  ·have hn:l'=[]:=List.eq_nil_of_length_eq_zero hm;subst hn;refine fin none 0 w ?_ ⟨rfl,sm,.inl ⟨rfl,sm,rfl⟩⟩ rfl rfl rfl (Nat.le_refl _) (λ_ _ _=>rfl) (λj hj=>.inl hj);exact A5g w t xt ty e inf ht o b
  ·have hr:=A6t (P:=P) w t xt ty e inf z ht o hz b om (by simp at p;omega) (growslice_fits om (by simpa using hb));have b7:=grown 0 (by simp;omega);simp only [List.length_nil,Nat.zero_add,List.nil_append,List.flatMap_nil,Array.empty_append] at b7 hr fin ⊢;refine fin _ _ _ hr b7 rfl rfl rfl sm (λj hj _=>A7p w.drew _ j hj) (λj hj=>?_);obtain ⟨_,hj⟩:=hj
   cases hj
   exact .inr (Nat.le_refl _)
 ·by_cases m:l.length+l'.length<=cap
  ·have d5:(l.length+l'.length)*inf.size<=cap*inf.size:=Nat.mul_le_mul_right _ m;have q:=Nat.add_mul l.length l'.length inf.size;have b8:off+l.length*inf.size+(l'.flatMap f).length<=cur.size:=by rw [hl];omega
   have b9:=A1w (P:=P) g (off+l.length*inf.size) e fz (l'.flatMap f) 0 cur w hg b6 (by simpa using b8) b5;simp only [Nat.add_zero] at b9;refine fin (some ⟨g,off,none⟩) cap (w.setRow g (cur.toList.take (off+l.length*inf.size)++l'.flatMap f++cur.toList.drop (off+l.length*inf.size+(l'.flatMap f).length)).toArray) ?_ ⟨rfl,y,.inr ⟨g,off,_,fz,rfl,setRow_heap w g cur _ e _ hg,?_,by rw [c];exact m,b0,?_,?_⟩⟩ rfl rfl rfl (by simp [World.setRow]) (λj _ hj=>setRow_other w g j _ (λhe=>hj ⟨off,by rw [he]⟩)) (λj hj=>.inl hj)
   ·exact A5h w _ t xt ty e inf ht o _ _ _ b m (by rw [Addr.add_lit];exact b9)
   ·refine b6.imp id λh=>?_;have:cur.toList.length=cur.size:=by simp
    simp only [List.size_toArray,List.length_append,List.length_take,List.length_drop];omega
   ·have:cur.toList.length=cur.size:=by simp
    simp only [List.size_toArray,List.length_append,List.length_take,List.length_drop];omega
   ·have d2:cur.toList.length=cur.size:=by simp
    have hz:(cur.toList.take (off+l.length*inf.size)).length=off+l.length*inf.size:=by rw [List.length_take];omega
    rw [c,d,←n,Nat.add_mul,←hl];simp only [List.append_assoc];rw [List.drop_append_of_le_length om,List.drop_take,Nat.add_sub_cancel_left,List.take_append,List.length_take,List.length_drop,d2];have e1:min (l.length*inf.size) (cur.size-off)=l.length*inf.size:=om
    rw [e1,List.take_of_length_le (by rw [List.length_take,List.length_drop];omega),Nat.add_sub_cancel_left,List.take_append_of_le_length om,List.take_of_length_le (Nat.le_refl _)]
  ·have holds:∀j u,(l.flatMap f)[j]? = some u->w.cell? ((⟨g,off,none⟩:Addr).add j)=some u:=by
    intro j u v;have q:(⟨g,off,none⟩:Addr).add j=⟨g,off+j,none⟩:=by unfold Addr.add;split<;>simp_all
    rw [q];rw [←n,List.getElem?_take] at v
    split at v
    ·rw [List.getElem?_drop] at v;simp only [World.cell?,hg]
     simpa using v
    ·cases v
   have hr:=A5f (P:=P) w t xt ty e inf z ht o hz ⟨g,off,none⟩ l.length cap (l.flatMap f) s holds b om om (growslice_fits om hb);refine fin _ _ _ hr (grown cap om) rfl rfl rfl sm (λj hj _=>A7p w.drew _ j hj) (λj hj=>?_);obtain ⟨_,hj⟩:=hj
   cases hj
   exact .inr (Nat.le_refl _)
theorem B9h (M':Option Addr->Nat->List (Nat×Value)) (i:Nat) {t ty scap:Nat} (j:Fr N ds M a) (m:St w0 H w) (hi:H[i]? = some (arrT e sz f ad l.length cap l)) (b:Bg ops N=true)
  (n:EffAt ops k M (Builtin.append_ #[t,t] ty #[.slice ad l.length cap,.slice sad l'.length scap])) (c:Q4 P t e sz bytes=true) (d:Arr w sz f sad l'.length scap l') (o:∀x∈l',(f x).all Value.oneCell'=true) (g:apd bytes l l'=some l3)
  (p:∀ad2 cap2,NextM ops k M (.slice ad2 l3.length cap2) (M' ad2 cap2))
  (next:∀ad2 cap2 w' a',Fr N ds (M' ad2 cap2) a'->St w0 (H.set i (arrT e sz f ad2 l3.length cap2 l3)) w'->K a' w'):SK P r ops k K a w:=by
 obtain ⟨inf,z,q,_⟩:=T4 c;exact B9i M' i j m hi b n c (Src.slice q d) o g p next
def A06 (P:Program) (t:TypeId):Bool:=match P.underlying t with|some .string=>true|_=>false
theorem Uz {t:TypeId} (h:A06 P t=true):P.underlying t=some .string:=by
 unfold A06 at h
 split at h
 ·assumption
 ·cases h
end
def fA {α:Type} (f:α->List Value) (x:α):Value:=.agg (f x).toArray
section
variable {l:List β}
theorem A0o {l:List α} (h:All2 Eq c l):c=l:=by
 induction h with
 | nil=>rfl
 | cons h _ ih=>rw [h,ih]
theorem B06 {x:List α} (b:∀w,FrzAt ν w->Arr w sz f ad x.length cap c) (d:All2 Eq c x):ArrM ν sz f ad cap x:=by
 obtain rfl:=A0o d;exact b
theorem ArrQ.of_rows {R:Rel β} {c:List (List Value)} (d:∀w,FrzAt ν w->Arr w sz (fN sz) ad l.length cap c) (b:All2 (R ν) c l):ArrQ ν sz R ad cap c l:=by
 refine ⟨λw e=>?_,b⟩;rw [b.len];exact d w e
theorem Arr.tight {l:List α} (h:Arr w sz f ad n cap l):Arr w sz f ad l.length l.length l:=by
 obtain ⟨rfl,ad',cap',e,b,c,d,g⟩:=h
 cases e
 exact ⟨rfl,ad,l.length,rfl,b,Nat.le_refl _,Nat.le_trans c d,g⟩
theorem NestOk.one (h:All2 S c l):NestOk S [(ad,l.length,cap)] [c] [l]:=⟨.cons rfl .nil,.cons h .nil⟩
theorem NestOk.app {hd2:List Hd} {css2:List (List α)} {L2:List (List β)} (h:NestOk S hd css L) (b:NestOk S hd2 css2 L2):NestOk S (hd++hd2) (css++css2) (L++L2):=⟨h.1.app b.1,h.2.app b.2⟩
end
section
variable {e t:Nat}
theorem Xp (α:Type) (ei sz:Nat) (f:α->List Value) (S:α->β->Prop) (M':Nat->List (Nat×Value)) {n:Int} (l:Fr N ds M a) (m:St w0 H w) (g:Bg ops N=true) (o:EffAt ops k M (Instr.makeSlice t (.int .i64 n) (.int .i64 n)))
  (j:Q4 P t e 1 bytes=true) (p:(P.info? e).bind (·.zero)=some (.slice none 0 0)) (c:mkI bytes n ([]:List β)=some L) (q:∀b,NextM ops k M (.slice (some ⟨b,0,none⟩) L.length L.length) (M' b))
  (next:∀b hd css w' a',Fr N ds (M' b) a'->NestOk S hd css L->St w0 (Bo e ei sz f (some ⟨b,0,none⟩) L.length L.length hd css::H) w'->K a' w'):SK P r ops k K a w:=by
 obtain ⟨h0,rfl,hb,s⟩:=A1n c;have d:(List.replicate n.toNat ([]:List β)).length=(List.replicate n.toNat P3).length:=by simp
 have i:mkI bytes n P3=some (List.replicate n.toNat P3):=by
  unfold mkI at c ⊢
  split at c
  ·rename_i u;rw [if_pos u]
  ·cases c
 refine A2z M' P3 l m g o j p (f:=hdF) rfl i (by rw [←d];exact q) ?_;intro b w' a' g1 g2;rw [←d] at g2;exact next b _ _ w' a' g1 (NestOk.rep _) (St.makeNest g2 ei sz f)
theorem B7n {ei:Nat} (M':Nat->List (Nat×Value)) (h:Hd) (g:Fr N ds M a) (i:St w0 (Go.Eng.arr ei sz f h.1 h.2.1 h.2.2 c::H) w) (d:Bg ops N=true) (j:EffAt ops k M (Instr.buildSlice t 1 #[(0,.slice h.1 h.2.1 h.2.2)]))
  (hb:Rc P t 1 #[(0,.slice h.1 h.2.1 h.2.2)]=some (e,#[.slice h.1 h.2.1 h.2.2])) (l:∀b,NextM ops k M (.slice (some ⟨b,0,none⟩) 1 1) (M' b))
  (next:∀b w' a',Fr N ds (M' b) a'->St w0 (Bo e ei sz f (some ⟨b,0,none⟩) 1 1 [h] [c]::H) w'->K a' w'):SK P r ops k K a w:=by
 refine A99 (f:=hdF) (sz:=1) M' _ _ [h] g i d j hb Qr rfl rfl dc l ?_;intro b w' a' g1 g2;refine next b w' a' g1 ?_
 apply St.closeG;exact g2
theorem B6s {ei cap2 ty:Nat} {ad2:Option Addr} {hd2:List Hd} {css2:List (List α)} {L2 L3:List (List β)} (M':Option Addr->Nat->List (Nat×Value)) (m:NestOk S hd css L) (n:NestOk S hd2 css2 L2) (o:Fr N ds M a)
  (p:St w0 (Bo e ei sz f ad L.length cap hd css::Bo e ei sz f ad2 L2.length cap2 hd2 css2::H) w) (b:Bg ops N=true) (q:EffAt ops k M (Builtin.append_ #[t,t] ty #[.slice ad L.length cap,.slice ad2 L2.length cap2])) (d:Q4 P t e 1 bytes=true) (g:apd bytes L L2=some L3)
  (s:∀ad3 cap3,NextM ops k M (.slice ad3 L3.length cap3) (M' ad3 cap3))
  (next:∀ad3 cap3 w' a',Fr N ds (M' ad3 cap3) a'->St w0 (Bo e ei sz f ad3 L3.length cap3 (hd++hd2) (css++css2)::H) w'->K a' w'):SK P r ops k K a w:=by
 have u:=p.splitN;have v:St w0 (Bo e ei sz f ad2 L2.length cap2 hd2 css2::Go.Eng.arr e 1 hdF ad L.length cap hd::Qz ei sz f hd css::H) w:=u.perm ((List.Perm.cons _ (List.Perm.swap _ _ _)).trans (List.Perm.swap _ _ _));have j:=v.splitN;refine A10 (l:=L) (l':=L2) (c:=hd) (c':=hd2) M' 2 o j rfl b q d (by
  have:=j.arr (i:=0) rfl;exact this) (λx _=>rfl) g s ?_
 intro ad3 cap3 w' a' g1 g2;refine next ad3 cap3 w' a' g1 (St.joinN ?_)
 have g3:St w0 (Qz ei sz f hd2 css2::Go.Eng.arr e 1 hdF ad3 L3.length cap3 (hd++hd2)::Qz ei sz f hd css::H) w':=g2.drop1;have g4:St w0 (Qz ei sz f hd css::Qz ei sz f hd2 css2::Go.Eng.arr e 1 hdF ad3 L3.length cap3 (hd++hd2)::H) w':=g3.perm ((List.Perm.cons _ (List.Perm.swap _ _ _)).trans (List.Perm.swap _ _ _));have g5:=St.catRws m.lenHC g4;exact g5.perm (List.Perm.swap _ _ _)
end
def isU (v:Value):Bool:=match v with|.bool _=>false|_=>true
structure SkipU (ops:Array Oper) (k:Nat) (M:List (Nat×Value)):Prop where
 eq:(((ops[k]?).bind (·.guard)).bind λg=>(dstAt ops g.1).bind λd=>(lookM M d).map isU)=some true
section
theorem N9 (k':Nat) (M':List (Nat×Value)) (l:Fr N ds M a) (e:Bg ops N=true) (b:SkipU ops k M) (m:NextM ops k M undef M') (n:k+1=k')
  (next:∀a',Fr N ds M' a'->WI P r ops Q k' a' w):WI P r ops Q k a w:=by
 have b:=b.eq
 cases ho:ops[k]? with
 | none=>rw [ho] at b;simp at b
 | some o =>
  rw [ho] at b;simp only [Option.bind_some] at b
  cases f:o.guard with
  | none=>rw [f] at b;simp at b
  | some g =>
   rw [f] at b;simp only [Option.bind_some] at b;have p:(yielded ops a.tmps g.1==some g.2)=false:=by
    cases hd:dstAt ops g.1 with
    | none=>rw [hd] at b;simp at b
    | some d =>
     rw [hd] at b;simp only [Option.bind_some] at b
     cases i:lookM M d with
     | none=>rw [i] at b;simp at b
     | some v =>
      rw [i] at b;simp only [Option.map_some,Option.some.injEq] at b;have c:=l.get i;have:yielded ops a.tmps g.1=none:=by
       unfold yielded;rw [show (ops[g.1]?).bind (·.dst)=some d from hd];rw [Array.getD_eq_getD_getElem?] at c
       cases j:a.tmps[d]? with
       | none=>simp [j]
       | some u =>
        rw [j] at c;simp at c;subst c
        cases u<;>first|(simp [j];done)|(simp [isU] at b)
      rw [this];rfl
   refine WI.cons (R:=λv w'=>v=undef/\w'=w) ho ?_ ?_
   ·unfold OpG;have:Region.wanted o (yielded ops a.tmps)=false:=by simp only [Region.wanted,f];exact p
    rw [this];exact ⟨rfl,rfl⟩
   ·rintro v w' ⟨rfl,rfl⟩;rw [n];exact next _ (K4 ho e l m)
end
section
variable {f:γ->Value} {css L L3:List (List (Ts γ n))} {l l3:List (Ts γ n)} {eo e:Nat}
end
def Yn (s:ByteArray) (i:Int):Option Int:=if 0<=i/\i<s.size then some ((s[i.toNat]!).toNat:Int) else none
def nmC (x:Nat):Bool:=!(decide (97<=x)&&decide (x<=122)||decide (48<=x)&&decide (x<=57)||x==95)
def C02 (s:ByteArray):Bool:=decide (0<=Lib.idxFunc nmC true s)
def bst (l:List Int):ByteArray:=⟨(l.map λx=>UInt8.ofNat x.toNat).toArray⟩
theorem A2s:∀(l:List Int) (s:ByteArray),l.foldl (λr n=>r.push (UInt8.ofNat n.toNat)) s=⟨s.data++(l.map λx=>UInt8.ofNat x.toNat).toArray⟩
 | [],s=>by simp
 | x::l,s=>by
  simp only [List.foldl_cons];rw [A2s l];simp [ByteArray.push]
def A3s (P:Program) (t:TypeId):Bool:=match P.underlying t with
 | some (.slice e)=>match P.underlying e with|some (.int .u8)=>true|_=>false
 | _=>false
theorem A3t {t:TypeId} (h:A3s P t=true):∃e,P.underlying t=some (.slice e)/\P.underlying e=some (.int .u8):=by
 unfold A3s at h
 split at h
 ·rename_i e he
  split at h
  ·rename_i b;exact ⟨e,he,b⟩
  ·cases h
 ·cases h
section
variable {cs:List Cd}
theorem C04 {src dst:TypeId} {l:List Int} (i:A3s P src=true) (hd:A06 P dst=true) (h:∀w',D w'->Arr w' 1 (fK .u8) ad l.length cap l) :
  Ob.ok P T D (.run cs (convert src dst (.slice ad l.length cap)) (.string (bst l))):=by
 intro _ w' e;obtain ⟨el,k,m⟩:=A3t i;rw [run_convert_bytes_string w' src dst el ad l.length cap k m (Uz hd)];have f:=h w' e
 cases ad with
 | none =>
  have n:l=[]:=by
   obtain ⟨_,ad',cap',he,_,_,_,c⟩:=f
   cases he
   rcases Nat.eq_zero_or_pos l.length with h0|h0
   ·exact List.eq_nil_of_length_eq_zero h0
   ·obtain ⟨a,f,_⟩:=c h0;cases f
  subst n;rfl
 | some a =>
  have c:∀j u,(l.map (Value.int .u8))[j]? = some u->w'.cell? (a.add j)=some u:=by
   obtain ⟨_,ad',cap',he,_,_,_,c⟩:=f
   cases he
   intro j u g;have hj:j<l.length:=by have:=(List.getElem?_eq_some_iff.1 g).1;simpa using this
   obtain ⟨b,hb,_,h⟩:=c om
   cases hb
   refine h j u ?_;show (l.flatMap λx=>[Value.int .u8 x])[j]? = _;rw [B13];exact g
  have d:=run_loadCells_list (P:=P) w' a (l.map (Value.int .u8)) c;rw [List.length_map] at d;rw [run_bytesToString w' a l.length cap l d,A2s];show Result.ok (Value.string ⟨#[]++_⟩) w'=_;simp [bst]
def s2b (s:ByteArray):Option (List Int):=if s.size<=9223372036854775807 then some (sby s) else none
theorem B2u {s:ByteArray} {l:List Int} (h:s2b s=some l):l=sby s/\s.size<=maxLen:=by
 unfold s2b at h
 split at h
 ·cases h;exact ⟨rfl,by simpa [maxLen]⟩
 ·cases h
theorem Wb {t:TypeId} {s:ByteArray} {i u:Int} (c:A06 P t=true) (h:Br cs=true->Yn s i=some u):Ob.ok P T D (.run cs (Instr.index t (.string s) (.int .i64 i)) (.int .u8 u)):=by
 intro d w' _;have h:=h d;unfold Yn at h
 split at h
 ·rename_i e
  cases h
  have b:i.toNat<s.size:=om
  have e1:s[i.toNat]? = some (s[i.toNat]!):=by
   rw [getElem?_pos s i.toNat b,getElem!_pos s i.toNat b]
  simp [Instr.index,run_underlying (Uz c),asIntOf,e.1,e1]
 ·cases h
def sEq (a b:ByteArray):Bool:=decide (a.data.toList=b.data.toList)
theorem B52 {a b:ByteArray}:sEq a b=true↔a=b:=by
 unfold sEq;rw [decide_eq_true_eq];constructor
 ·intro h;have:a.data=b.data:=Array.toList_inj.1 h
  cases a;cases b;simp only [ByteArray.mk.injEq];exact this
 ·rintro rfl;rfl
theorem A1y (a b:ByteArray):(a.toList==b.toList)=sEq a b:=by
 rw [Lib.toList_data,Lib.toList_data];unfold sEq;rw [Bool.eq_iff_iff];simp
theorem Xe {t:TypeId} {a b:ByteArray}:Ob.ok P T D (.run cs (Us .eql t a b) (.bool (sEq a b))):=λ_ w' _=>by
 rw [←A1y];simp [Us,eqGuard,binOp,Op.stringOp]
theorem A82 {t:TypeId} {a b:ByteArray}:Ob.ok P T D (.run cs (Us .neq t a b) (.bool (!sEq a b))):=λ_ w' _=>by
 rw [←A1y];simp [Us,eqGuard,binOp,Op.stringOp]
structure ConvAt (ops:Array Oper) (k:Nat) (M:List (Nat×Value)) (src dst:TypeId) (v:Value):Prop where
 eq:((plainAt ops k M).bind λo=>match o.op with|.convert s t x=>some (s,t,rhoE (ofM M) x)|_=>none)=some (src,dst,v)
theorem B79 (e:TypeId) (M':Option Addr->Nat->List (Nat×Value)) {src dst:TypeId} {s:ByteArray} {l3:List Int} (t:Fr N ds M a) (u:St w0 H w) (d:Bg ops N=true) (c:ConvAt ops k M src dst (.string s)) (y:A06 P src=true) (z:P.underlying dst=some (.slice e)) (h3:P.underlying e=some (.int .u8)) (g:s2b s=some l3)
  (hM:∀ad cap,NextM ops k M (.slice ad l3.length cap) (M' ad cap))
  (next:∀ad cap w' a',Fr N ds (M' ad cap) a'->St w0 (arrT e 1 (fK .u8) ad l3.length cap l3::H) w'->K a' w'):SK P r ops k K a w:=by
 obtain ⟨rfl,i⟩:=B2u g;have c:=c.eq
 cases ho:plainAt ops k M with
 | none=>rw [ho] at c;simp at c
 | some o =>
  rw [ho] at c;simp only [Option.bind_some] at c
  split at c
  ·rename_i s' t' x l
   simp at c;obtain ⟨rfl,rfl,hx⟩:=c;have hr:=Lib.run_convert_string_bytes (P:=P) w s' t' e s (Uz y) z h3;refine B4w (v:=.slice (some ⟨w.heap.size,0,none⟩) s.size (grownCap w s.size 0 e)) t d ho (w':=Lib.bytesWorld w e s) ?_ (by rw [←A0v];exact hM _ _) ?_
   ·unfold execOp;rw [l];simp [hx,hr]
   ·intro a' f;rw [A0v] at f;have m:=grownCap_ge w s.size 0 e;have n:grownCap w s.size 0 e<=maxLen:=grownCap_le_maxLen w s.size 0 e i;have p:(Lib.bytesCells w e s).size=grownCap w s.size 0 e:=by
     simp only [Lib.bytesCells,Array.size_append,Array.size_map,Array.size_replicate];show s.size+_=_;omega
    have q:Ext w (Lib.bytesWorld w e s):=⟨rfl,rfl,rfl,by rw [Lib.bytesWorld_size];omega,λj hj=>Lib.bytesWorld_at_old w e s j hj⟩;refine next _ _ _ a' f (u.push q ⟨rfl,?_,.inr ⟨w.heap.size,0,_,_,rfl,Lib.bytesWorld_at_new w e s,.inr (Nat.le_refl _),by rw [A0v];exact m,n,by rw [p];omega,?_⟩⟩ ?_)
    ·show (List.flatMap (λx=>[Value.int .u8 x]) (sby s)).length=_;rw [B13,List.length_map,Nat.mul_one]
    ·show _=List.flatMap (λx=>[Value.int .u8 x]) (sby s);rw [B13,List.drop_zero,Nat.mul_one,A0v];simp only [Lib.bytesCells,Array.toList_append,Array.toList_map];rw [List.take_left' (by rw [List.length_map];rfl)];unfold sby;rw [List.map_map];rfl
    ·rintro b ⟨off,hb⟩
     cases hb
     exact Nat.le_refl _
  ·simp at c
def Q6 (P:Program) (f:FuncId) (args:Array Value) (w:World) {α ε:Type} (y:Except (Value×ε) α) (R:α->Value->World->Prop) (Rp:ε->World->Prop):Prop :=
 Calls P f args w (λe w'=>(∃x v,y=.ok x/\e=.returned v/\R x v w')\/∃x,y=.error x/\e=.panicked [{ v:=x.1,recovered:=false }]/\Rp x.2 w')
theorem P9 (M':Value->List (Nat×Value)) {f:FuncId} {ε:Type} {y:Except (Value×ε) α} {R:α->Value->World->Prop} {Rp:ε->World->Prop} (i:Fr N ds M a) (d:Bg ops N=true) (j:CallAt P ops k M f args)
  (l:Q6 P f args w y R Rp) (m:∀v,NextM ops k M v (M' v))
  (n:∀x w',y=.error x->Rp x.2 w'->Q (.panic [{ v:=x.1,recovered:=false }]) a w')
  (next:∀x v w' a',y=.ok x->R x v w'->Fr N ds (M' v) a'->WI P r ops Q (k+1) a' w'):WI P r ops Q k a w :=
 B9o M' (R:=λv w'=>∃x,y=.ok x/\R x v w') (Rp:=λch w'=>∃x,y=.error x/\ch=[{ v:=x.1,recovered:=false }]/\Rp x.2 w') i d j
  (Calls.mono l (by
   rintro e w' (⟨x,v,b,rfl,c⟩|⟨x,b,rfl,c⟩)
   ·exact .inl ⟨v,rfl,x,b,c⟩
   ·exact .inr ⟨_,rfl,x,b,rfl,c⟩)) m
  (by rintro ch w' ⟨x,b,rfl,c⟩;exact n x w' b c)
  (by rintro v w' a' ⟨x,b,c⟩ g;exact next x v w' a' b c g)
theorem A3g {B:List PanicEntry->World->Prop} (M':Value->List (Nat×Value)) {f:FuncId} {ε:Type} {y:Except (Value×ε) α} {R:α->Value->World->Prop} {Rp:ε->World->Prop} (i:Fr N ds M a) (c:Bg ops N=true) (b:CallAt P ops k M f args)
  (l:Q6 P f args w y R Rp) (m:∀v,NextM ops k M v (M' v))
  (n:∀x w',y=.error x->Rp x.2 w'->B [{ v:=x.1,recovered:=false }] w')
  (next:∀x v w' a',y=.ok x->R x v w'->Fr N ds (M' v) a'->K a' w'):SKB P r ops k B K a w:=by
 have b:=b.eq
 cases ho:plainAt ops k M with
 | none=>rw [ho] at b;simp at b
 | some o =>
  rw [ho] at b;simp only [Option.bind_some] at b
  split at b
  ·rename_i f' args' d
   simp at b;obtain ⟨rfl,rfl⟩:=b;obtain ⟨j,p,q⟩:=Mb (r:=r) ho i;refine ⟨o,j,.inr ⟨p,f',args',w,?_,Calls.mono l ?_⟩⟩
   ·rw [q,Bl _ _ d w]
   ·rintro e w' (⟨x,v,e1,rfl,g⟩|⟨x,e1,rfl,g⟩)
    ·exact .inl ⟨v,rfl,next x v w' _ e1 g (K4 j c i (m v))⟩
    ·exact .inr ⟨_,rfl,n x w' e1 g⟩
  ·simp at b
theorem X0 (hd:a'.defers=[]) (b:R (.panicked ch) w):bodyPost P fn R (.panic ch) a' w:=⟨hd,b⟩
def asI (t:Nat) (k:IntKind) (v:Value):Option Int:=match v with|.iface u (.int k' z)=>if u=t/\k'=k then some z else none|_=>none
theorem B6u {t:Nat} {k:IntKind} {z:Int} (h:asI t k v=some z):v=.iface t (.int k z):=by
 unfold asI at h
 split at h
 ·split at h
  ·rename_i b;cases h;obtain ⟨rfl,rfl⟩:=b;rfl
  ·cases h
 ·cases h
end
abbrev FM:=List (Nat×Value)
class Drp (s:Nat) (M:FM) (M':outParam FM):Prop
instance {s:Nat}:Drp s [] []:=⟨⟩
instance (priority:=high) {s:Nat} {v:Value} {M:FM}:Drp s ((s,v)::M) M:=⟨⟩
instance {e:Nat×Value} {s:Nat} {M M':FM} [Drp s M M']:Drp s (e::M) (e::M'):=⟨⟩
class Pre (n M:FM) (M':outParam FM):Prop
def dp (s:Nat):Nat×Value:=(s,undef)
instance {M:FM}:Pre [] M M:=⟨⟩
instance {e:Nat×Value} {n M M':FM} [Pre n M M']:Pre (e::n) M (e::M'):=⟨⟩
instance (priority:=high) {s:Nat} {n M M1 M':FM} [Pre n M M1] [Drp s M1 M']:Pre (dp s::n) M M':=⟨⟩
class SetL (l:List Value) (i:Nat) (v:Value) (l':outParam (List Value)):Prop
instance {x v:Value} {l:List Value}:SetL (x::l) 0 v (v::l):=⟨⟩
instance {x v:Value} {l l':List Value} {i:Nat} [SetL l i v l']:SetL (x::l) (i+1) v (x::l'):=⟨⟩
class Spt (n:Nat) (l:List Nat) (a b:outParam (List Nat)):Prop
instance {l:List Nat}:Spt 0 l [] l:=⟨⟩
instance {n x:Nat} {l a b:List Nat} [Spt n l a b]:Spt (n+1) (x::l) (x::a) b:=⟨⟩
theorem C12 {α:Type _} {a b:α} (h:some a=some b):a=b:=Option.some.inj h
section
variable {M M':FM}
theorem qn (n k':Nat) (nw:FM) (c:Fr N ds M a) (next:∀a',Fr N ds M' a'->WI P r ops Q k' a' w) [Pre nw M M'] (b:Bg ops N=true:=by kernel_rfl) (h:Ends P ops n k M M' []:=by exact ⟨by kernel_rfl⟩) (d:k+n=k':=by rfl):WI P r ops Q k a w :=
 A5e k' M' c b A4 h d next
theorem qo (n k':Nat) (nw:FM) (e:Fr N ds M a) (d:Obs P (λa b=>b=a) (λx=>x=w) obs) (next:∀a',Fr N ds M' a'->WI P r ops Q k' a' w) [Pre nw M M'] (c:Bg ops N=true:=by kernel_rfl) (h:Ends P ops n k M M' obs:=by exact ⟨by kernel_rfl⟩) (f:k+n=k':=by rfl):WI P r ops Q k a w :=
 A5e k' M' e c d h f next
theorem qx (n k':Nat) (nw:FM) (d:Fr N ds M a) (c:Obs P Ext (Ext w) obs) (next:∀a' w',Fr N ds M' a'->Ext w w'->WI P r ops Q k' a' w') [Pre nw M M'] (b:Bg ops N=true:=by kernel_rfl) (h:Ends P ops n k M M' obs:=by exact ⟨by kernel_rfl⟩) (e:k+n=k':=by rfl):WI P r ops Q k a w :=
 C0h k' M' d b c h e next
end
section
variable {y:Code} {M M':FM}
theorem qnB (nw:FM) (d:Fr N ds M a) (next:∀a',Fr N ds M' a'->WP P r y Q a' w) [Pre nw M M'] (b:Bg ops N=true:=by kernel_rfl) (h:Ends P ops ops.size 0 M M' []:=by exact ⟨by kernel_rfl⟩):WP P r (.seq (.region id ops false) y) Q a w :=
 esr (A5e ops.size M' d b A4 h (Nat.zero_add _) λa' c=>wfn (Nat.beq_refl _) (next a' c))
theorem qoB (nw:FM) (f:Fr N ds M a) (d:Obs P (λa b=>b=a) (λx=>x=w) obs) (next:∀a',Fr N ds M' a'->WP P r y Q a' w) [Pre nw M M'] (c:Bg ops N=true:=by kernel_rfl) (h:Ends P ops ops.size 0 M M' obs:=by exact ⟨by kernel_rfl⟩):WP P r (.seq (.region id ops false) y) Q a w :=
 esr (A5e ops.size M' f c d h (Nat.zero_add _) λa' e=>wfn (Nat.beq_refl _) (next a' e))
theorem rnB (M':FM) (d:Fr N ds M a) (next:∀a',Fr N ds M' a'->WP P r y Q a' w) (b:Bg ops N=true:=by kernel_rfl) (h:Ends P ops ops.size 0 M M' []:=by exact ⟨by kernel_rfl⟩):WP P r (.seq (.region id ops false) y) Q a w :=
 esr (A5e ops.size M' d b A4 h (Nat.zero_add _) λa' c=>wfn (Nat.beq_refl _) (next a' c))
theorem roB (M':FM) (f:Fr N ds M a) (d:Obs P (λa b=>b=a) (λx=>x=w) obs) (next:∀a',Fr N ds M' a'->WP P r y Q a' w) (c:Bg ops N=true:=by kernel_rfl) (h:Ends P ops ops.size 0 M M' obs:=by exact ⟨by kernel_rfl⟩):WP P r (.seq (.region id ops false) y) Q a w :=
 esr (A5e ops.size M' f c d h (Nat.zero_add _) λa' e=>wfn (Nat.beq_refl _) (next a' e))
end
section
variable {M M':FM}
theorem ro (n k':Nat) (M':FM) (e:Fr N ds M a) (d:Obs P (λa b=>b=a) (λx=>x=w) obs) (next:∀a',Fr N ds M' a'->WI P r ops Q k' a' w) (c:Bg ops N=true:=by kernel_rfl) (h:Ends P ops n k M M' obs:=by exact ⟨by kernel_rfl⟩) (f:k+n=k':=by rfl):WI P r ops Q k a w :=
 A5e k' M' e c d h f next
theorem rX (n k':Nat) (M':FM) (d:Fr N ds M a) (c:Obs P Ext (Ext w) obs) (next:∀a' w',Fr N ds M' a'->Ext w w'->WI P r ops Q k' a' w') (b:Bg ops N=true:=by kernel_rfl) (h:Ends P ops n k M M' obs:=by exact ⟨by kernel_rfl⟩) (e:k+n=k':=by rfl):WI P r ops Q k a w :=
 C0h k' M' d b c h e next
theorem rD (m:Nat) (M':FM) (e:Fr N ds M a) (b:Obs P Ext (Ext w) obs) (next:∀a' w',Fr N ds M' a'->Ext w w'->WI P r ops Q m a' w') (c:P.follows .mixedOrders=true:=by kernel_rfl) (d:(Bg ops N&&Te ops m&&Nv ops m&&Kh ops&&Nat.ble m ops.size)=true:=by kernel_rfl)
  (h:Ends P ops m 0 M M' obs:=by exact ⟨by kernel_rfl⟩):WP P r (.region id ops true) Q a w:=C0g m M' c e d b h next
theorem qD (m:Nat) (nw:FM) (e:Fr N ds M a) (b:Obs P Ext (Ext w) obs) (next:∀a' w',Fr N ds M' a'->Ext w w'->WI P r ops Q m a' w') [Pre nw M M'] (c:P.follows .mixedOrders=true:=by kernel_rfl) (d:(Bg ops N&&Te ops m&&Nv ops m&&Kh ops&&Nat.ble m ops.size)=true:=by kernel_rfl)
  (h:Ends P ops m 0 M M' obs:=by exact ⟨by kernel_rfl⟩):WP P r (.region id ops true) Q a w:=C0g m M' c e d b h next
theorem qs (t i off:Nat) (v:Value) {cs cs':List Value} (j:Fr N ds M a) (l:St w0 H w) (hi:H[i]? = some (blk b tt cs.toArray)) (next:∀w' a',Fr N ds M a'->St w0 (H.set i (blk b tt cs'.toArray)) w'->K a' w') [SetL cs off v cs'] (c:Bg ops N=true:=by kernel_rfl)
  (m:StoreAt ops k M t (.pointer (some ⟨b,off,none⟩)) v:=by exact ⟨by kernel_rfl⟩) (f:pureSem P (sizeOf t)=some v.cells.size:=by kernel_rfl) (d:v.cells.toList.all Value.oneCell'=true:=by kernel_rfl) (e:Nat.ble (off+v.cells.size) cs.toArray.size=true:=by kernel_rfl) (g:Y1 cs.toArray off v.cells.toList=cs'.toArray:=by kernel_rfl)
  (n:NextM ops k M undef M:=by exact ⟨by kernel_rfl⟩):SK P r ops k K a w:=Lk M i off v cs'.toArray j l hi c m f d e g n next
theorem qS (t i off:Nat) (v:Value) (cs':Array Value) (j:Fr N ds M a) (l:St w0 H w) (hi:H[i]? = some (blk b tt cs)) (next:∀w' a',Fr N ds M a'->St w0 (H.set i (blk b tt cs')) w'->K a' w') (c:Bg ops N=true:=by kernel_rfl)
  (m:StoreAt ops k M t (.pointer (some ⟨b,off,none⟩)) v:=by exact ⟨by kernel_rfl⟩) (f:pureSem P (sizeOf t)=some v.cells.size:=by kernel_rfl) (d:v.cells.toList.all Value.oneCell'=true:=by kernel_rfl) (e:Nat.ble (off+v.cells.size) cs.size=true:=by kernel_rfl) (g:Y1 cs off v.cells.toList=cs':=by kernel_rfl)
  (n:NextM ops k M undef M:=by exact ⟨by kernel_rfl⟩):SK P r ops k K a w:=Lk M i off v cs' j l hi c m f d e g n next
theorem qB {M':Nat->FM} (t:TypeId) (v:Value) (cs:Array Value) (nw:Nat->FM) (e:Fr N ds M a) (f:St w0 H w) (next:∀b w' a',Fr N ds (M' b) a'->St w0 (blk b t cs::H) w'->K a' w') [∀b,Pre (nw b) M (M' b)] (c:Bg ops N=true:=by kernel_rfl) (g:EffAt ops k M (Instr.box t v):=by exact ⟨by kernel_rfl⟩) (d:v.cells=cs:=by kernel_rfl)
  (i:∀b,NextM ops k M (.pointer (some ⟨b,0,none⟩)) (M' b):=by exact λ_=>⟨by kernel_rfl⟩):SK P r ops k K a w:=B6v M' v cs e f c g d i next
theorem qA {M':Nat->FM} (t:TypeId) (cs:Array Value) (nw:Nat->FM) (d:Fr N ds M a) (e:St w0 H w) (next:∀b w' a',Fr N ds (M' b) a'->St w0 (blk b t cs::H) w'->K a' w') [∀b,Pre (nw b) M (M' b)] (c:Bg ops N=true:=by kernel_rfl) (f:EffAt ops k M (Instr.alloc t true (.tuple #[])):=by exact ⟨by kernel_rfl⟩)
  (g:((P.info? t).bind (·.zero)).map Value.cells=some cs:=by kernel_rfl) (i:∀b,NextM ops k M (.pointer (some ⟨b,0,none⟩)) (M' b):=by exact λ_=>⟨by kernel_rfl⟩):SK P r ops k K a w:=B08 M' cs d e c f g i next
theorem qR {M':Value->FM} (nw:Value->FM) {f:FuncId} {R:Value->World->Prop} (c:Fr N ds M a) (d:Up P f args w R) (next:∀v w' a',R v w'->Fr N ds (M' v) a'->K a' w') [∀v,Pre (nw v) M (M' v)] (b:Bg ops N=true:=by kernel_rfl) (e:CallAt P ops k M f args:=by exact ⟨by kernel_rfl⟩)
  (g:∀v,NextM ops k M v (M' v):=by exact λ_=>⟨by kernel_rfl⟩):SK P r ops k K a w:=B62 M' c b e d g next
theorem rR (M':Value->FM) {f:FuncId} {R:Value->World->Prop} (c:Fr N ds M a) (d:Up P f args w R) (next:∀v w' a',R v w'->Fr N ds (M' v) a'->K a' w') (b:Bg ops N=true:=by kernel_rfl) (e:CallAt P ops k M f args:=by exact ⟨by kernel_rfl⟩)
  (g:∀v,NextM ops k M v (M' v):=by exact λ_=>⟨by kernel_rfl⟩):SK P r ops k K a w:=B62 M' c b e d g next
theorem St.i (h:St w0 H w):∀w',w'=w->St w0 H w':=λ_ e=>h.at_ e
theorem St.e (h:St w0 H w):∀w',Ext w w'->St w0 H w':=λ_ e=>h.later e
theorem oL (t i j:Nat) {u:Value} (c:∀w',D w'->St w0 H w') (hi:H[i]? = some (blk b tt cs)) (hj:cs[j]? = some u) (l:Obs P T D obs) (d:Tc P t=true:=by kernel_rfl):Obs P T D (.run [] (Instr.loadAt t (.pointer (some ⟨b,j,none⟩))) u::obs) :=
 Pj (ob1 d λw' hd=>(c w' hd).cell hi hj) l
theorem oN (t i off n:Nat) (c:∀w',D w'->St w0 H w') (hi:H[i]? = some (blk b tt cs)) (l:Obs P T D obs) (d:Sw P t=some ((cs.toList.drop off).take n).length:=by kernel_rfl) (hn:(cs.toList.drop off).take ((cs.toList.drop off).take n).length=(cs.toList.drop off).take n:=by kernel_rfl) :
  Obs P T D (.run [] (Instr.loadAt t (.pointer (some ⟨b,off,none⟩))) (.agg ((cs.toList.drop off).take n).toArray)::obs):=Pj (obN d λw' hd=>((c w' hd).blk hi).cells hn) l
theorem oA (t:TypeId) {x y z:Int} (h:ck (x+y)=some z) (l:Obs P T D obs):Obs P T D (.run [] (binOp .add t (.int .i64 x) (.int .i64 y)) (.int .i64 z)::obs):=Pj (A6m λ_=>h) l
theorem oS (t:TypeId) {x y z:Int} (h:ck (x-y)=some z) (l:Obs P T D obs):Obs P T D (.run [] (binOp .sub t (.int .i64 x) (.int .i64 y)) (.int .i64 z)::obs):=Pj (Zn λ_=>h) l
theorem oM (t:TypeId) {x y z:Int} (h:ck (x*y)=some z) (l:Obs P T D obs):Obs P T D (.run [] (binOp .mul t (.int .i64 x) (.int .i64 y)) (.int .i64 z)::obs):=Pj (B29 λ_=>h) l
theorem oQ (t:TypeId) {x y z:Int} (h:Qy x y=some z) (l:Obs P T D obs):Obs P T D (.run [] (binOp .quo t (.int .i64 x) (.int .i64 y)) (.int .i64 z)::obs):=Pj (B2b λ_=>h) l
theorem oR (t:TypeId) {x y z:Int} (h:Jr x y=some z) (l:Obs P T D obs):Obs P T D (.run [] (binOp .rem t (.int .i64 x) (.int .i64 y)) (.int .i64 z)::obs):=Pj (B2c λ_=>h) l
theorem oC {f:FuncId} (h:∀w',D w'->Calls P f args w' (λe w''=>e=.returned v/\T w' w'')) (l:Obs P T D obs):Obs P T D (.call [] f args v::obs):=Pj (show Ob.ok P T D (.call [] f args v) from λ_=>h) l
theorem oX (o:Ob) (h:Ob.ok P T D o) (l:Obs P T D obs):Obs P T D (o::obs):=Pj h l
def Ob.gd (cs:List Cd):Ob->Ob
 | .run [] s v=>.run cs s v
 | .call [] f x v=>.call cs f x v
 | o=>o
theorem Ob.gd_ok (cs:List Cd) {o:Ob} (h:o.ok P T D):(o.gd cs).ok P T D:=by
 cases o with
 | run c s v=>cases c with
  | nil=>exact λ_=>h rfl
  | cons _ _=>exact h
 | call c f x v=>cases c with
  | nil=>exact λ_=>h rfl
  | cons _ _=>exact h
theorem oGs (cs:List Cd) {l1:List Ob} (h:Obs P T D l1) (l:Obs P T D obs):Obs P T D (l1.map (Ob.gd cs)++obs):=by
 induction l1 with
 | nil=>exact l
 | cons o r ih=>exact ⟨Ob.gd_ok cs h.1,ih h.2⟩
section
theorem oI (t:TypeId) {i:Int} (h:Arr w sz f ad n cap l) (b:Av l i=some u) (k:Obs P T D obs) (c:R6 P t sz=true:=by kernel_rfl):Obs P T D (.run [] (Instr.indexAt t (.slice ad n cap) (.int .i64 i)) (.pointer (some (Ck ad i sz)))::obs):=Pj (Wa h c λ_=>b) k
theorem oE (t j:Nat) {i:Int} (b:∀x,(f x).length=sz) (h:∀w',D w'->Arr w' sz f ad n cap l) (c:Av l i=some u) (hj:(f u)[j]? = some v) (k:Obs P T D obs) (d:Tc P t=true:=by kernel_rfl) :
  Obs P T D (.run [] (Instr.loadAt t (.pointer (some ((Ck ad i sz).add j)))) v::obs):=Pj (A07 j b h d (λ_=>c) hj) k
theorem oG (t j m:Nat) {i:Int} (b:∀x,(f x).length=sz) (h:∀w',D w'->Arr w' sz f ad n cap l) (c:Av l i=some u) (k:Obs P T D obs) (d:(((f u).drop j).take m).length=m:=by kernel_rfl) (e:Sw P t=some m:=by kernel_rfl) :
  Obs P T D (.run [] (Instr.loadAt t (.pointer (some ((Ck ad i sz).add j)))) (.agg (((f u).drop j).take m).toArray)::obs):=Pj (B83 j b h e (λ_=>c) ⟨d,rfl⟩) k
end
end
section
variable {M M':FM}
theorem qC {l rs:List Nat} (n:Nat) (nw:FM) (f:Fr N ds M a) (d:Obs P (λa b=>b=a) D obs) (next:∀a',Fr N ds M' a'->WRun P r ops D eff K rest a' w) [Spt n l rs rest] [Pre nw M M'] (g:l=rs++rest:=by rfl) (c:Bg ops N=true:=by kernel_rfl) (e:rs.all (λi=>!eff.contains i)=true:=by kernel_rfl) (h:EndsL P ops rs M M' obs:=by exact ⟨by kernel_rfl⟩):WRun P r ops D eff K l a w :=
 g▸C0f rs M' f c e d h next
theorem rC {l rs:List Nat} (n:Nat) (M':FM) (f:Fr N ds M a) (d:Obs P (λa b=>b=a) D obs) (next:∀a',Fr N ds M' a'->WRun P r ops D eff K rest a' w) [Spt n l rs rest] (g:l=rs++rest:=by rfl) (c:Bg ops N=true:=by kernel_rfl) (e:rs.all (λi=>!eff.contains i)=true:=by kernel_rfl) (h:EndsL P ops rs M M' obs:=by exact ⟨by kernel_rfl⟩):WRun P r ops D eff K l a w :=
 g▸C0f rs M' f c e d h next
end
section
variable {f:FuncId} {c:Code}
class Arg (i:Nat) (l:List Value) (M:outParam FM):Prop
instance {i:Nat}:Arg i [] []:=⟨⟩
instance {i:Nat} {x:Value} {l:List Value} {M:FM} [Arg (i+1) l M]:Arg i (x::l) ((i,x)::M):=⟨⟩
theorem feW (d:P.funcs[f]? = some fn) (N:Nat) (M:FM) (g:St w0 H w) (h:∀a w1,Fr N [] M a->St w0 H w1->WP P none c (bodyPost P fn R) a w1) (hb:fn.body=some c:=by rfl) (i:fn.ntmps=N:=by rfl) (b:Nat.ble args.size N=true:=by rfl)
  (j:M.map (λp=>(args++Array.replicate (N-args.size) undef).getD p.1 undef)=M.map Prod.snd:=by kernel_rfl):Calls P f args w R :=
 A8w d hb N M i b j λa w1 e k=>h a w1 k (g.cast e)
end
section
variable {M:FM}
theorem Ab {c:Nat} {x y:Code} {t:Bool} {u v z:β} (d:Fr N ds M a) (h:(bif t then u else v)=z) (e:t=true->u=z->WP P r x Q a w) (f:t=false->v=z->WP P r y Q a w) (g:lookM M c=some (.bool t):=by rfl):WP P r (.cond (.tmp c) x y) Q a w :=
 B0u d g (λb=>e b (Dt h b)) (λb=>f b (Dr h b))
theorem wK (h:K a w):WP P r .skip (Exit.then K Q) a w:=wpIn_skip (A5 h)
theorem Frz.ext.t {ξ:Frz} (h:μ.ext n ν) (k:ν.ext n ξ):μ.ext n ξ:=Frz.ext_trans h k
theorem Frz.le.t {ξ:Frz} (h:μ.le ν) (k:ν.le ξ):μ.le ξ:=Frz.le_trans h k
end
class Spl (l:List Value) (i:Nat) (us:List Value) (l':outParam (List Value)):Prop
instance {l:List Value}:Spl l 0 [] l:=⟨⟩
instance {x u:Value} {l us l':List Value} [Spl l 0 us l']:Spl (x::l) 0 (u::us) (u::l'):=⟨⟩
instance {x:Value} {l us l':List Value} {i:Nat} [Spl l i us l']:Spl (x::l) (i+1) us (x::l'):=⟨⟩
section
variable {M:FM}
theorem qm (t i off:Nat) (us:List Value) {cs cs':List Value} (j:Fr N ds M a) (l:St w0 H w) (hi:H[i]? = some (blk b tt cs.toArray)) (next:∀w' a',Fr N ds M a'->St w0 (H.set i (blk b tt cs'.toArray)) w'->K a' w') [Spl cs off us cs'] (c:Bg ops N=true:=by kernel_rfl)
  (m:StoreAt ops k M t (.pointer (some ⟨b,off,none⟩)) (.agg us.toArray):=by exact ⟨by kernel_rfl⟩) (f:pureSem P (sizeOf t)=some (Value.agg us.toArray).cells.size:=by kernel_rfl) (d:(Value.agg us.toArray).cells.toList.all Value.oneCell'=true:=by kernel_rfl) (e:Nat.ble (off+(Value.agg us.toArray).cells.size) cs.toArray.size=true:=by kernel_rfl) (g:Y1 cs.toArray off (Value.agg us.toArray).cells.toList=cs'.toArray:=by kernel_rfl)
  (n:NextM ops k M undef M:=by exact ⟨by kernel_rfl⟩):SK P r ops k K a w:=Lk M i off (.agg us.toArray) cs'.toArray j l hi c m f d e g n next
theorem qw (t i:Nat) (cs':Array Value) (j:Fr N ds M a) (l:St w0 H w) (hi:H[i]? = some (blk b tt cs)) (next:∀w' a',Fr N ds M a'->St w0 (H.set i (blk b tt cs')) w'->K a' w') (c:Bg ops N=true:=by kernel_rfl)
  (m:StoreAt ops k M t (.pointer (some ⟨b,0,none⟩)) (.agg cs'):=by exact ⟨by kernel_rfl⟩) (f:pureSem P (sizeOf t)=some (Value.agg cs').cells.size:=by kernel_rfl) (d:(Value.agg cs').cells.toList.all Value.oneCell'=true:=by kernel_rfl) (e:Nat.ble (0+(Value.agg cs').cells.size) cs.size=true:=by kernel_rfl) (g:Y1 cs 0 (Value.agg cs').cells.toList=cs':=by kernel_rfl)
  (n:NextM ops k M undef M:=by exact ⟨by kernel_rfl⟩):SK P r ops k K a w:=Lk M i 0 (.agg cs') cs' j l hi c m f d e g n next
theorem qBa {M':Nat->FM} (t:TypeId) (cs:Array Value) (nw:Nat->FM) (d:Fr N ds M a) (e:St w0 H w) (next:∀b w' a',Fr N ds (M' b) a'->St w0 (blk b t cs::H) w'->K a' w') [∀b,Pre (nw b) M (M' b)] (c:Bg ops N=true:=by kernel_rfl) (f:EffAt ops k M (Instr.box t (.agg cs)):=by exact ⟨by kernel_rfl⟩)
  (g:∀b,NextM ops k M (.pointer (some ⟨b,0,none⟩)) (M' b):=by exact λ_=>⟨by kernel_rfl⟩):SK P r ops k K a w:=B6v M' (.agg cs) cs d e c f rfl g next
theorem rBa (t:TypeId) (cs:Array Value) (M':Nat->FM) (d:Fr N ds M a) (e:St w0 H w) (next:∀b w' a',Fr N ds (M' b) a'->St w0 (blk b t cs::H) w'->K a' w') (c:Bg ops N=true:=by kernel_rfl) (f:EffAt ops k M (Instr.box t (.agg cs)):=by exact ⟨by kernel_rfl⟩)
  (g:∀b,NextM ops k M (.pointer (some ⟨b,0,none⟩)) (M' b):=by exact λ_=>⟨by kernel_rfl⟩):SK P r ops k K a w:=B6v M' (.agg cs) cs d e c f rfl g next
theorem rA (t:TypeId) (cs:Array Value) (M':Nat->FM) (d:Fr N ds M a) (e:St w0 H w) (next:∀b w' a',Fr N ds (M' b) a'->St w0 (blk b t cs::H) w'->K a' w') (c:Bg ops N=true:=by kernel_rfl) (f:EffAt ops k M (Instr.alloc t true (.tuple #[])):=by exact ⟨by kernel_rfl⟩)
  (g:((P.info? t).bind (·.zero)).map Value.cells=some cs:=by kernel_rfl) (i:∀b,NextM ops k M (.pointer (some ⟨b,0,none⟩)) (M' b):=by exact λ_=>⟨by kernel_rfl⟩):SK P r ops k K a w:=B08 M' cs d e c f g i next
variable {e:Nat}
def B7o (f:α->List Value) (l:List α):Array (Nat×Value):=(l.zipIdx.map λp=>(p.2,match f p.1 with|[v]=>v|us=>.agg us.toArray)).toArray
theorem qL (e t len:Nat) (l:List α) (nw:Nat->FM) {M':Nat->FM} (d:∀x,(f x).length=sz) (g:Fr N ds M a) (i:St w0 H w) (next:∀b w' a',Fr N ds (M' b) a'->St w0 (arr e sz f (some ⟨b,0,none⟩) l.length len l::H) w'->K a' w') [∀b,Pre (nw b) M (M' b)] (c:Bg ops N=true:=by kernel_rfl)
  (j:EffAt ops k M (Instr.buildSlice t len (B7o f l)):=by exact ⟨by kernel_rfl⟩) (hb:Rc P t len (B7o f l)=some (e,(l.flatMap f).toArray):=by kernel_rfl) (m:l.length=len:=by rfl) (hn:Nat.ble len 16777216=true:=by kernel_rfl) (n:∀b,NextM ops k M (.slice (some ⟨b,0,none⟩) len len) (M' b):=by exact λ_=>⟨by kernel_rfl⟩):SK P r ops k K a w :=
 A99 M' (B7o f l) _ l g i c j hb d m rfl hn n next
theorem qP (t ty i:Nat) (nw:Option Addr->Nat->FM) {M':Option Addr->Nat->FM} {scap:Nat} (j:Fr N ds M a) (m:St w0 H w) (b:Arr w sz f sad l'.length scap l') (d:apd bytes l l'=some l3) (hi:H[i]? = some (arr e sz f ad l.length cap l))
  (next:∀ad2 cap2 w' a',Fr N ds (M' ad2 cap2) a'->St w0 (H.set i (arr e sz f ad2 l3.length cap2 l3)) w'->K a' w') [∀ad2 cap2,Pre (nw ad2 cap2) M (M' ad2 cap2)] (n:∀x∈l',(f x).all Value.oneCell'=true:=by exact λ_ _=>rfl) (c:Bg ops N=true:=by kernel_rfl)
  (o:EffAt ops k M (Builtin.append_ #[t,t] ty #[.slice ad l.length cap,.slice sad l'.length scap]):=by exact ⟨by kernel_rfl⟩) (g:Q4 P t e sz bytes=true:=by kernel_rfl) (p:∀ad2 cap2,NextM ops k M (.slice ad2 l3.length cap2) (M' ad2 cap2):=by exact λ_ _=>⟨by kernel_rfl⟩):SK P r ops k K a w :=
 B9g M' i j m hi c o g b n d p next
end
section
variable {M M':FM}
theorem qk (k':Nat) (nw:FM) (c:Fr N ds M a) (next:∀a',Fr N ds M' a'->WI P r ops Q k' a' w) [Pre nw M M'] (b:Bg ops N=true:=by kernel_rfl) (d:SkipAt ops k M:=by exact ⟨by kernel_rfl⟩) (e:NextM ops k M undef M':=by exact ⟨by kernel_rfl⟩) (f:k+1=k':=by rfl):WI P r ops Q k a w:=B2y k' M' c b d e f next
theorem rk (k':Nat) (M':FM) (c:Fr N ds M a) (next:∀a',Fr N ds M' a'->WI P r ops Q k' a' w) (b:Bg ops N=true:=by kernel_rfl) (d:SkipAt ops k M:=by exact ⟨by kernel_rfl⟩) (e:NextM ops k M undef M':=by exact ⟨by kernel_rfl⟩) (f:k+1=k':=by rfl):WI P r ops Q k a w:=B2y k' M' c b d e f next
end
def cutS (s:ByteArray) (lo hi:Int):Option ByteArray:=if 0<=lo/\lo<=hi/\hi<=s.size then some (s.extract lo.toNat hi.toNat) else none
def Jd (a b:ByteArray):Option ByteArray:=if a.size+b.size<=9223372036854775807 then some (a++b) else none
theorem A2q {s r:ByteArray} (h:cutS s lo hi=some r):∃a b:Nat,lo=a/\hi=b/\a<=b/\b<=s.size/\r=s.extract a b:=by
 unfold cutS at h
 split at h
 ·rename_i c
  cases h
  exact ⟨lo.toNat,hi.toNat,om,om,om,om,rfl⟩
 ·cases h
theorem A8n {a b r:ByteArray} (h:Jd a b=some r):r=a++b/\a.size+b.size<=9223372036854775807:=by
 unfold Jd at h
 split at h
 ·cases h;exact ⟨rfl,by assumption⟩
 ·cases h
section
variable {cs:List Cd} {t:Nat} {s r:ByteArray}
theorem A4o {l h:Option Value} {a:Nat} (c:A06 P t=true) (hb:∀w,(Instr.sliceBounds false s.size s.size l h none).run P w=.ok (a,b,s.size) w) (w:World) :
  (Instr.sliceAt t (.string s) l h none).run P w=.ok (.string (s.extract a b)) w:=by
 have d:=Uz c;simp [Instr.sliceAt,Instr.slice,run_underlying d,hb w]
theorem A3x (c:A06 P t=true) (d:Br cs=true->cutS s lo ((s.size:Nat):Int)=some r):Ob.ok P T D (.run cs (Instr.sliceAt t (.string s) (some (.int .i64 lo)) none none) (.string r)):=by
 intro e w _;obtain ⟨a,b,rfl,hb,f,g,rfl⟩:=A2q (d e);obtain rfl:b=s.size:=om
 exact A4o c (λw=>by simp [Instr.sliceBounds,Instr.sliceBound,asIntOf,f]) w
theorem Ep (c:A06 P t=true) (d:Br cs=true->cutS s 0 hi=some r):Ob.ok P T D (.run cs (Instr.sliceAt t (.string s) none (some (.int .i64 hi)) none) (.string r)):=by
 intro e w _;obtain ⟨a,b,g,rfl,i,f,rfl⟩:=A2q (d e);obtain rfl:a=0:=om
 exact A4o c (λw=>by simp [Instr.sliceBounds,Instr.sliceBound,asIntOf,f]) w
theorem Kj {a b:ByteArray} (c:Br cs=true->Jd a b=some r):Ob.ok P T D (.run cs (binOp .add t (.string a) (.string b)) (.string r)):=by
 intro d w _;obtain ⟨rfl,h⟩:=A8n (c d);have e:¬(((a.size+b.size:Nat):Int)>IntKind.i64.max):=by
  have:IntKind.i64.max=9223372036854775807:=by rfl
  omega
 have f:∀w,(Op.stringOp .add a b).run P w=.ok (.string (a++b)) w:=λw=>by
  unfold Op.stringOp;simp only [if_neg e];rfl
 simp [binOp,f]
end
section
variable {cs:List Cd} {f:α->Value} {x:Ts α n} {l2:List α}
theorem A1d (f:α->Value):∀(l:List α),(l.flatMap λu=>[f u])=l.map f
 | []=>rfl
 | x::l=>by rw [List.flatMap_cons,A1d f l];rfl
theorem Arr.ofVec (hm:n<=9223372036854775807) (h:Blk w b tt (vF f x).toArray):Arr w 1 (λu=>[f u]) (some ⟨b,0,none⟩) n n x.1:=by
 have hn:=x.2;have c:b<w.heap.size:=by
  unfold Blk at h;exact (Array.getElem?_eq_some_iff.1 h).1
 refine ⟨hn,_,_,rfl,?_,om,by unfold maxLen;omega,λd=>?_⟩
 ·rw [A1d,List.length_map,hn,Nat.mul_one]
 ·refine ⟨⟨b,0,none⟩,rfl,c,λj u e=>?_⟩;rw [A1d] at e;have:=Blk.cell1 (j:=j) (v:=u) h (by rw [List.getElem?_toArray];exact e);rw [Addr.add_lit,Nat.zero_add];exact this
theorem Arr.cutV (hm:n<=9223372036854775807) (h:Blk w b tt (vF f x).toArray) (c:Sx x.1 lo hi=some l2):Arr w 1 (λu=>[f u]) (Gj (some ⟨b,0,none⟩) n lo.toNat 1) l2.length (n-lo.toNat) l2:=(Arr.ofVec hm h).cutD (λ_=>rfl) c
theorem B28 {t:Nat} (g:A7e P t n=true) (i:Br cs=true->Sx x.1 lo hi=some l2) :
  Ob.ok P T D (.run cs (Instr.sliceAt t (.pointer (some ⟨b,0,none⟩)) (some (.int .i64 lo)) (some (.int .i64 hi)) none) (.slice (Gj (some ⟨b,0,none⟩) n lo.toNat 1) l2.length (n-lo.toNat))):=by
 intro j w _;obtain ⟨e,k,l⟩:=A11 g;obtain ⟨a,c,rfl,rfl,m,d,rfl,o⟩:=Wu (i j);rw [x.2] at d;rw [o];have hb:∀w,(Instr.sliceBounds false n n (some (.int .i64 (a:Int))) (some (.int .i64 (c:Int))) none).run P w=.ok (a,c,n) w:=λw=>by simp [Instr.sliceBounds,Instr.sliceBound,asIntOf,m,d]
 have p:∀w,(Instr.sureAddr (.pointer (some ⟨b,0,none⟩))).run P w=.ok (⟨b,0,none⟩:Addr) w:=λw=>by simp [Instr.sureAddr]
 simp [Instr.sliceAt,run_underlying k,p w,hb w,l w];unfold Gj
 by_cases f:n=a
 ·simp [f]
 ·simp [f]
end
def B2x (k:IntKind) (x y:Int):Option Int:=if 0<=y then some (x.fdiv (2 ^ min y.toNat k.bits)) else none
def A5y (k:IntKind) (x y:Int):Int:=k.wrap ((BitVec.ofInt k.bits x &&& BitVec.ofInt k.bits y).toNat)
theorem B88 {cs:List Cd} {t:TypeId} {k yk:IntKind} {x y z:Int} (b:Br cs=true->B2x k x y=some z):Ob.ok P T D (.run cs (binOp .shr t (.int k x) (.int yk y)) (.int k z)):=by
 intro c w _;have h:=b c;unfold B2x at h
 split at h
 ·rename_i h0
  cases h
  have d:¬y<0:=om
  simp [binOp,Op.shift,d]
 ·cases h
def SlM {α:Type} (sz:Nat) (f:α->List Value) (μ:Frz) (v:Value) (l:List α):Prop:=∃ad cap,v=.slice ad l.length cap/\ArrM μ sz f ad cap l
def SlQ {α:Type} (sz:Nat) (R:Rel α) (μ:Frz) (v:Value) (l:List α):Prop:=∃ad cap css,v=.slice ad l.length cap/\ArrQ μ sz R ad cap css l
def MapS {κ ν:Type} (S:Value->ν->Prop) (Bv:List (κ×Value)) (B:List (κ×ν)):Prop:=All2 (λ(p:κ×Value) (q:κ×ν)=>p.1=q.1/\S p.2 q.2) Bv B
def MapM {κ α:Type} (sz:Nat) (f:α->List Value) (μ:Frz) (Bv:List (κ×Value)) (B:List (κ×List α)):Prop:=MapS (SlM sz f μ) Bv B
def MapQ {κ α:Type} (sz:Nat) (R:Rel α) (μ:Frz) (Bv:List (κ×Value)) (B:List (κ×List α)):Prop:=MapS (SlQ sz R μ) Bv B
section
variable {ν:Type} [DecidableEq κ] {S S2:Value->ν->Prop} {Bv:List (κ×Value)} {B:List (κ×ν)} {x:κ} {y:ν} {μ':Frz}
theorem MapS.nil:MapS S ([]:List (κ×Value)) ([]:List (κ×ν)):=All2.nil
theorem MapS.imp (h:MapS S Bv B) (b:∀v y,S v y->S2 v y):MapS S2 Bv B:=by
 unfold MapS at *
 induction h with
 | nil=>exact .nil
 | cons h _ ih=>exact .cons ⟨h.1,b _ _ h.2⟩ ih
theorem MapS.lk (h:MapS S Bv B) (x:κ):(lkM Bv x=none/\lkM B x=none)\/∃v y,lkM Bv x=some v/\lkM B x=some y/\S v y:=by
 unfold MapS at h
 induction h with
 | nil=>exact .inl ⟨rfl,rfl⟩
 | cons h f ih =>
  rename_i p q bv b
  obtain ⟨e,d⟩:=h;unfold lkM
  by_cases c:x=p.1
  ·rw [if_pos c,if_pos (by rw [←e];exact c)];exact .inr ⟨_,_,rfl,rfl,d⟩
  ·rw [if_neg c,if_neg (by rw [←e];exact c)];exact ih
theorem MapS.up (h:MapS S Bv B) (d:S v y):MapS S (upM Bv x v) (upM B x y):=by
 unfold MapS at *
 induction h with
 | nil=>exact .cons ⟨rfl,d⟩ .nil
 | cons h f ih =>
  rename_i p q bv b
  obtain ⟨e,g⟩:=h;unfold upM
  by_cases c:x=p.1
  ·rw [if_pos c,if_pos (by rw [←e];exact c)];exact .cons ⟨rfl,d⟩ f
  ·rw [if_neg c,if_neg (by rw [←e];exact c)];exact .cons ⟨e,g⟩ ih
theorem SlM.mono (h:SlM sz f μ v l) (b:μ.le μ'):SlM sz f μ' v l:=by
 obtain ⟨ad,cap,rfl,h⟩:=h;exact ⟨ad,cap,rfl,h.mono b⟩
theorem SlQ.mono {R:Rel α} (h:SlQ sz R μ v l) (c:R.Mono) (b:μ.le μ'):SlQ sz R μ' v l:=by
 obtain ⟨ad,cap,css,rfl,h⟩:=h;exact ⟨ad,cap,css,rfl,h.mono c b⟩
theorem MapM.mono {B:List (κ×List α)} (h:MapM sz f μ Bv B) (b:μ.le μ'):MapM sz f μ' Bv B:=MapS.imp h λ_ _ h=>h.mono b
theorem MapQ.mono {R:Rel α} {B:List (κ×List α)} (h:MapQ sz R μ Bv B) (c:R.Mono) (b:μ.le μ'):MapQ sz R μ' Bv B:=MapS.imp h λ_ _ h=>h.mono c b
end
section
variable {ν:Type} [DecidableEq κ] {e t:TypeId} {vf:ν->Value} {B:List (κ×ν)} {x:κ} {v d:ν}
theorem A9c (M':List (Nat×Value)) (i:Nat) (x:κ) (d:ν) (g:KeyOk P kt kf) (y:Fr N ds M a) (z:St w0 H w) (hi:H[i]? = some (S9 kf vf m B)) (f:Bg ops N=true) (hs:EffM ops k M (Instr.lookup t (.map (some m)) (kf x) true)) (l:Vi P t kt e=true)
  (c:(P.info? e).bind (·.zero)=some (vf d)) (hM:NextM ops k M (.tuple #[vf ((lkM B x).getD d),.bool (lkM B x).isSome]) M') (next:∀a',Fr N ds M' a'->K a' w):SK P r ops k K a w:=by
 obtain ⟨es,clock,h1,h2,h3⟩:=z.res hi;refine A2r y f hs ?_ hM next
 obtain ⟨q,q1,q2,q3,q4⟩:=Yi g x h2;have n:=q1 w;have o:=Bl _ _ (g.ck es.isEmpty x) w;have s:=MapKept.run_getObj_map (P:=P) h1
 cases b:P.info? e with
 | none=>rw [b] at c;simp at c
 | some inf =>
  rw [b] at c;simp at c
  cases q with
  | some p =>
   obtain ⟨v,e1,e2⟩:=q3 p rfl;obtain ⟨j,u⟩:=p;have e2:u=vf v:=e2;subst e2;rw [e1];simp [Instr.lookup,run_underlying (L5 l),s,o,n,zeroValue,typeInfo,b,c]
  | none =>
   have e1:=q4 rfl;simp [Instr.lookup,run_underlying (L5 l),s,o,n,e1,zeroValue,typeInfo,b,c]
theorem A52 (M':Value->List (Nat×Value)) (i:Nat) (x:κ) {S:Value->List α->Prop} {Bv:List (κ×Value)} {B:List (κ×List α)} (g:KeyOk P kt kf) (j:MapS S Bv B) (h0:S (.slice none 0 0) []) (l:Fr N ds M a) (n:St w0 H w) (hi:H[i]? = some (S9 kf (λv=>v) m Bv)) (b:Bg ops N=true)
  (o:EffM ops k M (Instr.lookup t (.map (some m)) (kf x) true)) (p:Vi P t kt e=true) (q:(P.info? e).bind (·.zero)=some (.slice none 0 0)) (s:∀v,NextM ops k M (.tuple #[v,.bool (lkM B x).isSome]) (M' v))
  (next:∀v a',Fr N ds (M' v) a'->S v ((lkM B x).getD [])->K a' w):SK P r ops k K a w:=by
 have u:=j.lk x;have key:(lkM Bv x).isSome=(lkM B x).isSome/\S ((lkM Bv x).getD (.slice none 0 0)) ((lkM B x).getD []):=by
  rcases u with ⟨c,d⟩|⟨v,y,c,d,z⟩
  ·rw [c,d];exact ⟨rfl,h0⟩
  ·rw [c,d];exact ⟨rfl,z⟩
 refine A9c (e:=e) (M' ((lkM Bv x).getD (.slice none 0 0))) i x (.slice none 0 0) g l n hi b o p q ?_ λa' f=>next _ a' f key.2
 rw [key.1];exact s _
end
def obSem (ρ:Operand->Value):Op->Option (Sem Value)
 | .binOp .shr t x y _=>some (binOp .shr t (ρ x) (ρ y))
 | .binOp .shl t x y _=>some (binOp .shl t (ρ x) (ρ y))
 | o=>Yp ρ o
theorem A9j {s:Sem Value} (h:obSem ρ o.op=some s) (hr:s.run P w=.ok v w):(execOp ρ o).run P w=.ok (.value v) w:=by
 unfold obSem at h
 split at h
 ·rename_i t x y z b
  unfold execOp;rw [b]
  cases h
  simp [hr,eqGuard]
 ·rename_i t x y z b
  unfold execOp;rw [b]
  cases h
  simp [hr,eqGuard]
 ·exact (A04 h hr).2
structure ObAt (ops:Array Oper) (k:Nat) (M:List (Nat×Value)) (s:Sem Value):Prop where
 eq:((plainAt ops k M).bind λo=>obSem (rhoE (ofM M)) o.op)=some s
section
variable {s:Sem Value}
theorem obK (M':List (Nat×Value)) (e:Fr N ds M a) (c:Bg ops N=true) (b:ObAt ops k M s) (ho:Ob.ok P T (λw'=>w'=w) (.run [] s v)) (f:NextM ops k M v M') (next:∀a',Fr N ds M' a'->K a' w):SK P r ops k K a w:=by
 have b:=b.eq
 cases d:plainAt ops k M with
 | none=>rw [d] at b;simp at b
 | some o =>
  rw [d] at b;exact B4w e c d (A9j b (ho rfl w rfl)) f next
end
section
variable {cs:List Cd} {f:α->Value} {x:Ts α n} {i:Int}
theorem B2m {e:TypeId} (hn:Tc P e=true) {x:Ts α n} (h:x.1[j]? = some u):pureSem P (part e (vF f x).toArray (j*1))=some (f u):=by
 have hj:(vF f x).toArray[j*1]? = some (f u):=by
  rw [Nat.mul_one,List.getElem?_toArray];unfold vF;rw [List.getElem?_map,h];rfl
 have l:∀(s:Sem Bool),(match pureSem P s with|some b=>!b|none=>false)=true->pureSem P s=some false:=by
  intro s d
  cases i:pureSem P s with
  | none=>rw [i] at d;cases d
  | some b=>rw [i] at d;cases b<;>simp_all
 have o:=l _ hn;have g:∀{α β:Type} (s:Sem α) (k:α->Sem β) (a:α),pureSem P s=some a->pureSem P (s >>= k)=pureSem P (k a):=by
  intro α β s k a d
  induction s with
  | pure c=>simp [pureSem] at d;subst d;rfl
  | program c ih=>simp only [pureSem] at d;exact ih P d
  | mark m c ih=>simp only [pureSem] at d;exact ih d
  | _=>simp [pureSem] at d
 unfold part;rw [g _ _ _ o];simp only [Bool.false_eq_true,if_false,hj];rfl
def B61 (P:Program) (t:Nat):Bool:=match P.underlying t with
 | some (.array _ e)=>Tc P e
 | _=>false
theorem A0u {t:Nat} (d:A7e P t n=true) (hn:B61 P t=true) (g:Br cs=true->A4u x i=some u):Ob.ok P T D (.run cs (Instr.index t (.agg (vF f x).toArray) (.int .i64 i)) (f u)):=by
 intro j w _;obtain ⟨e,b,k⟩:=A11 d;obtain ⟨h0,hi,l⟩:=A8y (g j);unfold B61 at hn;rw [b] at hn;have c:=Bl _ _ (B2m (f:=f) hn l) w;rw [Nat.mul_one] at c;simp [Instr.index,asIntOf,run_underlying b,h0,hi,k w,c]
end
def TabM (P:Program) (name:String) (k:IntKind) (zs:List Int) (μ:Frz):Prop:=∀w,FrzAt μ w->Lib.TabIs P w name k zs
theorem TabM.mono {name:String} {k:IntKind} {zs:List Int} (h:TabM P name k zs μ) (b:μ.le ν):TabM P name k zs ν:=λw c=>h w (c.low b)
theorem TabM.of_mem {name:String} {k:IntKind} {zs:List Int} (h:Lib.TabIs P w name k zs):TabM P name k zs (C3 w):=λw' c=>by
 unfold Lib.TabIs World.var? at *
 cases b:P.globalNamed name with
 | none=>rw [b] at h;simp at h
 | some g =>
  rw [b] at h;simp only [Option.bind_some] at h ⊢
  cases hb:w.heap[g]? with
  | none=>rw [hb] at h;simp at h
  | some o =>
   have:w'.heap[g]? = some o:=c g o (by unfold C3;exact hb);rw [hb] at h;rw [this];exact h
theorem B8v (c:∀em x,pureSem P (Instr.checkKey em 10000 kt (Value.string x))=some ()) (b:pureSem P (underlying kt)=some .string):KeyOk P kt Value.string:=by
 refine KeyNow.ok ⟨c,λx=>?_,λx y=>?_,by rw [b];rfl⟩
 ·unfold Instr.sameBits;exact (MapKept.bytes_beq x x).2 rfl
 ·rw [b];show some (x==y)=some (decide (x=y))
  congr 1
  rw [Bool.eq_iff_iff,MapKept.bytes_beq,decide_eq_true_iff]
section
variable (w:World)
end
section
variable {F:Fence}
end
open Go.ChangeMaps (setBlock)
section
variable {ν:Type} {vf:ν->Value} {i:Nat} {B:List (κ×ν)} {bs:List Nat} {c:Nat}
end
section
variable {ν:Type} [DecidableEq κ] {e t:TypeId} {vf:ν->Value} {B:List (κ×ν)} {bs:List Nat} {c:Nat}
def itR (r m since:Nat) (seen:List Nat) (c0:Nat):Res:=Ct r (.mapIter (some m) since seen.toArray c0)
end
section
end
section
variable {e:Nat}
end
section
end
section
variable {e:Nat}
end
section
variable {e:Nat}
end
section
end
section
variable {B:List PanicEntry->World->Prop}
end
section
variable {B:List PanicEntry->World->Prop}
end
section
variable {M M':FM}
end
theorem St.pk (h:St w0 H w) (is:List Nat) (hn:is.Nodup:=by decide):St w0 (is.filterMap λi=>H[i]?) w:=St.pick is hn h
theorem St.fz (h:St w0 H w) (b:Ar w0 μ) (i:Nat) (hi:H[i]? = some (Lt w0.heap.size μ):=by exact rfl):FrzAt μ w:=h.frz hi b
theorem St.fm (h:St w0 H w) (b:Ar w0 μ) (i:Nat) (hi:H[i]? = some (Lt w0.heap.size μ):=by exact rfl):μ.le (C3 w):=h.frz hi b
theorem St.fd {w2:World} (h:St w0 H w) (hd:Ext w w2) (b:Ar w0 μ) (i:Nat) (hi:H[i]? = some (Lt w0.heap.size μ):=by exact rfl):μ.le (C3 w2):=(h.later hd).frz hi b
theorem St.fa {w2:World} (h:St w0 H w) (hd:w2=w) (b:Ar w0 μ) (i:Nat) (hi:H[i]? = some (Lt w0.heap.size μ):=by exact rfl):FrzAt μ w2:=(h.at_ hd).frz hi b
theorem Di (i:Nat) (c:Fr N [] M a) (d:lookM M i=some v) (e:R (.returned v) w) (b:fn.results=#[.tmp i]:=by rfl):bodyPost P fn R .ret a w:=Bx [.tmp i] [v] c b ⟨d,trivial⟩ e
theorem WT.n1 (e:Nat) (h:SK P r ops e (λa' w'=>D w'/\WT P r ops D m eff K n (done++[e]) a' w') a w) (hr:Ci ops m eff done=[]:=by kernel_rfl) (b:Vj ops eff done=[e]:=by kernel_rfl):WT P r ops D m eff K (n+1) done a w:=WT.s [] [e] hr b (all_cons h B4)
theorem WT.n2 (e f:Nat) (h:SK P r ops e (λa' w'=>D w'/\WT P r ops D m eff K n (done++[e]) a' w') a w) (k:SK P r ops f (λa' w'=>D w'/\WT P r ops D m eff K n (done++[f]) a' w') a w) (hr:Ci ops m eff done=[]:=by kernel_rfl) (b:Vj ops eff done=[e,f]:=by kernel_rfl):WT P r ops D m eff K (n+1) done a w:=WT.s [] [e,f] hr b (all_cons h (all_cons k B4))
theorem WT.n3 (e f g:Nat) (h:SK P r ops e (λa' w'=>D w'/\WT P r ops D m eff K n (done++[e]) a' w') a w) (k:SK P r ops f (λa' w'=>D w'/\WT P r ops D m eff K n (done++[f]) a' w') a w) (l:SK P r ops g (λa' w'=>D w'/\WT P r ops D m eff K n (done++[g]) a' w') a w) (hr:Ci ops m eff done=[]:=by kernel_rfl) (b:Vj ops eff done=[e,f,g]:=by kernel_rfl):WT P r ops D m eff K (n+1) done a w:=WT.s [] [e,f,g] hr b (all_cons h (all_cons k (all_cons l B4)))
theorem WT.n0 (h:K a w) (hr:Ci ops m eff done=[]:=by kernel_rfl):WT P r ops D m eff K 0 done a w:=WT.z [] hr h
class RM {α:Type} (R:Rel α):Prop where m:R.Mono
class Mo (μ ν:Frz) (A:Prop) (B:outParam Prop):Prop where m:μ.le ν->A->B
instance {μ ν:Frz} {α:Type} {sz:Nat} {f:α->List Value} {ad:Option Addr} {cap:Nat} {l:List α}:Mo μ ν (ArrM μ sz f ad cap l) (ArrM ν sz f ad cap l):=⟨λh a=>a.mono h⟩
instance {μ ν:Frz} {α:Type} {sz:Nat} {R:Rel α} [RM R] {ad:Option Addr} {cap:Nat} {css:List (List Value)} {l:List α}:Mo μ ν (ArrQ μ sz R ad cap css l) (ArrQ ν sz R ad cap css l):=⟨λh a=>a.mono RM.m h⟩
instance {μ ν:Frz} {α:Type} {R:Rel α} [RM R] {css:List (List Value)} {l:List α}:Mo μ ν (All2 (R μ) css l) (All2 (R ν) css l):=⟨λh a=>All2.mono RM.m h a⟩
instance {μ ν:Frz} {b t:Nat} {cs:Array Value}:Mo μ ν (BlkM μ b t cs) (BlkM ν b t cs):=⟨λh a=>a.mono h⟩
instance {μ ν:Frz} {α:Type} {T:TypeId} {R:Rel α} [RM R] {pa:Option Addr} {x:Option α}:Mo μ ν (PtM μ T R pa x) (PtM ν T R pa x):=⟨λh a=>a.mono RM.m h⟩
instance {β:Type} {R:Rel β} [RM R] {μ ν:Frz} {hd:List Hd} {css:List (List (List Value))} {L:List (List β)}:Mo μ ν (NestOk (R μ) hd css L) (NestOk (R ν) hd css L):=⟨λh a=>NestOk.mono RM.m h a⟩
instance {κ μ ν:Frz}:Mo μ ν (κ.le μ) (κ.le ν):=⟨λh a=>a.t h⟩
instance {P:Program} {name:String} {k:IntKind} {zs:List Int} {μ ν:Frz}:Mo μ ν (TabM P name k zs μ) (TabM P name k zs ν):=⟨λh a=>a.mono h⟩
instance {μ ν:Frz} {κ α:Type} [DecidableEq κ] {sz:Nat} {R:Rel α} [RM R] {Bv:List (κ×Value)} {B:List (κ×List α)}:Mo μ ν (MapQ sz R μ Bv B) (MapQ sz R ν Bv B):=⟨λh a=>a.mono RM.m h⟩
instance {μ ν:Frz} {κ α:Type} [DecidableEq κ] {sz:Nat} {f:α->List Value} {Bv:List (κ×Value)} {B:List (κ×List α)}:Mo μ ν (MapM sz f μ Bv B) (MapM sz f ν Bv B):=⟨λh a=>a.mono h⟩
theorem mo2 {A A' B B':Prop} (h:μ.le ν) (a:A) (b:B) [i:Mo μ ν A A'] [j:Mo μ ν B B']:A'/\B':=⟨i.m h a,j.m h b⟩
theorem mo3 {A A' B B' C C':Prop} (h:μ.le ν) (a:A) (b:B) (c:C) [i:Mo μ ν A A'] [j:Mo μ ν B B'] [k:Mo μ ν C C']:A'/\B'/\C':=⟨i.m h a,mo2 h b c⟩
theorem mo4 {A A' B B' C C' D D':Prop} (h:μ.le ν) (a:A) (b:B) (c:C) (d:D) [i:Mo μ ν A A'] [j:Mo μ ν B B'] [k:Mo μ ν C C'] [l:Mo μ ν D D']:A'/\B'/\C'/\D':=⟨i.m h a,mo3 h b c d⟩
theorem mo5 {A A' B B' C C' D D' E E':Prop} (h:μ.le ν) (a:A) (b:B) (c:C) (d:D) (e:E) [i:Mo μ ν A A'] [j:Mo μ ν B B'] [k:Mo μ ν C C'] [l:Mo μ ν D D'] [m:Mo μ ν E E']:A'/\B'/\C'/\D'/\E':=⟨i.m h a,mo4 h b c d e⟩
theorem mo6 {A A' B B' C C' D D' E E' G G':Prop} (h:μ.le ν) (a:A) (b:B) (c:C) (d:D) (e:E) (g:G) [i:Mo μ ν A A'] [j:Mo μ ν B B'] [k:Mo μ ν C C'] [l:Mo μ ν D D'] [m:Mo μ ν E E'] [n:Mo μ ν G G']:A'/\B'/\C'/\D'/\E'/\G':=⟨i.m h a,mo5 h b c d e g⟩
theorem oV (t j:Nat) {tt:Nat} {u:Value} (c:BlkM μ b tt cs) (d:∀w',D w'->FrzAt μ w') (l:Obs P T D obs) (hj:cs[j]? = some u:=by exact rfl) (e:Tc P t=true:=by kernel_rfl):Obs P T D (.run [] (Instr.loadAt t (.pointer (some ⟨b,j,none⟩))) u::obs):=Pj (ob1 e λw' hd=>(c.blk (d w' hd)).cell1 hj) l
theorem oU (t i j:Nat) {u:Value} (c:∀w',D w'->St w0 H w') (l:Obs P T D obs) (hi:H[i]? = some (blk b tt cs):=by exact rfl) (hj:cs[j]? = some u:=by exact rfl) (d:Tc P t=true:=by kernel_rfl):Obs P T D (.run [] (Instr.loadAt t (.pointer (some ⟨b,j,none⟩))) u::obs):=oL t i j c hi hj l d
theorem oW (t i off n:Nat) (c:∀w',D w'->St w0 H w') (l:Obs P T D obs) (hi:H[i]? = some (blk b tt cs):=by exact rfl) (d:Sw P t=some ((cs.toList.drop off).take n).length:=by kernel_rfl) (hn:(cs.toList.drop off).take ((cs.toList.drop off).take n).length=(cs.toList.drop off).take n:=by kernel_rfl):Obs P T D (.run [] (Instr.loadAt t (.pointer (some ⟨b,off,none⟩))) (.agg ((cs.toList.drop off).take n).toArray)::obs):=oN t i off n c hi l d hn
theorem wf (h:K a w) (b:Nat.beq k ops.size=true:=by rfl):WI P r ops (Exit.then K Q) k a w:=wfn b h
theorem nS {p:Prop} (h:(none:Option α)=some x):p:=nomatch h
theorem bft (b:Bool):b=true\/b=false:=Bool.eq_false_or_eq_true b
theorem Fr.sb (h:Fr N ds M a) (b:M'.map (λp=>lookM M p.1)=M'.map (λp=>some p.2):=by kernel_rfl):Fr N ds M' a:=h.sub b
theorem St.fA (h:St w0 H w) (b:Ar w0 μ) (i:Nat) (hi:H[i]? = some (Lt w0.heap.size μ):=by exact rfl):∀w',w'=w->FrzAt μ w':=λ_ e=>h.fa e b i hi
theorem St.fD (h:St w0 H w) (b:Ar w0 μ) (i:Nat) (hi:H[i]? = some (Lt w0.heap.size μ):=by exact rfl):∀w',Ext w w'->FrzAt μ w':=λ_ e=>h.fd e b i hi
theorem ArrM.a1 (h:ArrM μ sz f ad cap l) (b:∀w',D w'->FrzAt μ w'):∀w',D w'->Arr w' sz f ad l.length cap l:=λw hd=>h w (b w hd)
theorem ArrQ.a1 {R:Rel α} {css:List (List Value)} (h:ArrQ μ sz R ad cap css l) (b:∀w',D w'->FrzAt μ w'):∀w',D w'->Arr w' sz (fN sz) ad l.length cap css:=λw hd=>h.at (b w hd)
theorem wrX (i:Nat) (c:Fr N [] M a) (d:St w0 H w) (f:lookM M i=some v:=by rfl) (b:fn.results=#[.tmp i]:=by rfl):bodyPost P fn (λe w'=>e=.returned v/\Ext w0 w') .ret a w:=Di i c f ⟨rfl,d.ext⟩ b
theorem C9 {o:Option α} {p:α->Option β} {g:α->β->Option γ} {r:γ} (h:(o.bind λx=>(p x).bind (g x))=some r):∃x,o=some x/\∃y,p x=some y/\g x y=some r:=let ⟨x,a,k⟩:=A7 h;let ⟨y,b,l⟩:=A7 k;⟨x,a,y,b,l⟩
theorem Cg {δ:Type} {o:Option α} {p:α->Option β} {q:α->β->Option γ} {g:α->β->γ->Option δ} {r:δ} (h:(o.bind λx=>(p x).bind λy=>(q x y).bind (g x y))=some r):∃x,o=some x/\∃y,p x=some y/\∃z,q x y=some z/\g x y z=some r:=let ⟨x,a,k⟩:=A7 h;let ⟨y,b,l⟩:=C9 k;⟨x,a,y,b,l⟩
theorem qxs {M M':FM} (n k':Nat) (nw:FM) (d:Fr N ds M a) (e:St w0 H w) (c:Obs P Ext (Ext w) obs) (next:∀a' w',Fr N ds M' a'->St w0 H w'->WI P r ops Q k' a' w') [Pre nw M M'] (b:Bg ops N=true:=by kernel_rfl) (h:Ends P ops n k M M' obs:=by exact ⟨by kernel_rfl⟩) (f:k+n=k':=by rfl):WI P r ops Q k a w:=qx n k' nw d c (λa' w' g x=>next a' w' g (e.later x)) b h f
theorem rXs {M:FM} (n k':Nat) (M':FM) (d:Fr N ds M a) (e:St w0 H w) (c:Obs P Ext (Ext w) obs) (next:∀a' w',Fr N ds M' a'->St w0 H w'->WI P r ops Q k' a' w') (b:Bg ops N=true:=by kernel_rfl) (h:Ends P ops n k M M' obs:=by exact ⟨by kernel_rfl⟩) (f:k+n=k':=by rfl):WI P r ops Q k a w:=rX n k' M' d c (λa' w' g x=>next a' w' g (e.later x)) b h f
theorem rDs {M:FM} (m:Nat) (M':FM) (e:Fr N ds M a) (f:St w0 H w) (b:Obs P Ext (Ext w) obs) (next:∀a' w',Fr N ds M' a'->St w0 H w'->WI P r ops Q m a' w') (c:P.follows .mixedOrders=true:=by kernel_rfl) (d:(Bg ops N&&Te ops m&&Nv ops m&&Kh ops&&Nat.ble m ops.size)=true:=by kernel_rfl) (h:Ends P ops m 0 M M' obs:=by exact ⟨by kernel_rfl⟩):WP P r (.region id ops true) Q a w:=rD m M' e b (λa' w' g x=>next a' w' g (f.later x)) c d h
theorem qDs {M M':FM} (m:Nat) (nw:FM) (e:Fr N ds M a) (f:St w0 H w) (b:Obs P Ext (Ext w) obs) (next:∀a' w',Fr N ds M' a'->St w0 H w'->WI P r ops Q m a' w') [Pre nw M M'] (c:P.follows .mixedOrders=true:=by kernel_rfl) (d:(Bg ops N&&Te ops m&&Nv ops m&&Kh ops&&Nat.ble m ops.size)=true:=by kernel_rfl) (h:Ends P ops m 0 M M' obs:=by exact ⟨by kernel_rfl⟩):WP P r (.region id ops true) Q a w:=qD m nw e b (λa' w' g x=>next a' w' g (f.later x)) c d h
theorem St.fr {R:Res} (h:St w0 H w) (i j:Nat) (c:Ar w0 μ) (hi:H[i]? = some (Lt w0.heap.size μ):=by exact rfl) (hj:H[j]? = some R:=by exact rfl) (b:i≠j:=by decide):∃ν,μ.ext w0.heap.size ν/\Ar w0 ν/\St w0 ((H.set i (Lt w0.heap.size ν)).eraseIdx j) w/\∀w',FrzAt ν w'->R.holds w':=h.freeze hi hj b c
def un:List Nat->FM
 | []=>[]
 | t::l=>(t,undef)::un l
instance {M:FM}:Pre (un []) M M:=⟨⟩
instance {t:Nat} {l:List Nat} {M M':FM} [Pre (un l) M M']:Pre (un (t::l)) M ((t,undef)::M'):=⟨⟩
def skF (ops:Array Oper) (k:Nat) (M:FM):FM:=match dstAt ops k with|some d=>(d,undef)::M|none=>M
def skM (ops:Array Oper):Nat->Nat->FM->FM
 | 0,_,M=>M
 | n+1,k,M=>skM ops n (k+1) (skF ops k M)
def skC (ops:Array Oper):Nat->Nat->FM->List (Option Bool×List (Option Value))
 | 0,_,_=>[]
 | n+1,k,M=>(((ops[k]?).bind (·.guard)).bind (guardIs ops M),(skF ops k M).map (λp=>lookM (match dstAt ops k with|some d=>(d,undef)::M|none=>M) p.1))::skC ops n (k+1) (skF ops k M)
def skD (ops:Array Oper):Nat->Nat->FM->List (Option Bool×List (Option Value))
 | 0,_,_=>[]
 | n+1,k,M=>(some false,(skF ops k M).map (λp=>some p.2))::skD ops n (k+1) (skF ops k M)
theorem skR (b:Bg ops N=true) {k':Nat}:∀(n k:Nat) (M:FM) (a:Act),Fr N ds M a->skC ops n k M=skD ops n k M->k+n=k'->(∀a',Fr N ds (skM ops n k M) a'->WI P r ops Q k' a' w)->WI P r ops Q k a w
 | 0,k,M,a,d,_,g,next=>by
  have e:k=k':=g
  subst e
  exact next a d
 | n+1,k,M,a,d,c,g,next=>by
  simp only [skC,skD,List.cons.injEq,Prod.mk.injEq] at c
  exact B2y (k+1) (skF ops k M) d b ⟨c.1.1⟩ ⟨c.1.2⟩ rfl λa' f=>skR b n (k+1) (skF ops k M) a' f c.2 om next
theorem qks {M M':FM} (k':Nat) (l:List Nat) (c:Fr N ds M a) (next:∀a',Fr N ds M' a'->WI P r ops Q k' a' w) [Pre (un l) M M'] (b:Bg ops N=true:=by kernel_rfl) (d:skC ops l.length k M=skD ops l.length k M:=by kernel_rfl) (e:skM ops l.length k M=M':=by kernel_rfl) (f:k+l.length=k':=by rfl):WI P r ops Q k a w:=skR b l.length k M a c d f (by rw [e];exact next)
theorem oK {f:FuncId} (h:∀(μ:Frz) (w0:World),FrzAt μ w0->Calls P f args w0 (λe w=>e=.returned v/\Ext w0 w)) (l:Obs P Ext D obs):Obs P Ext D (.call [] f args v::obs):=oC (λw _=>h _ w (At w)) l
abbrev mps (m:Nat) (B:List (ByteArray×Value)):Res:=S9 Value.string (λv=>v) m B
abbrev fv (k:Nat) (cs:Array Value):Value:=.func (.func k) #[] cs
abbrev A6:=@wpIn_ret
abbrev A0:=@wpIn_block
abbrev Ai:=@wpIn_exit
abbrev Am:=@wpIn_skip
abbrev A3:=@WI.region
abbrev Al:=@WI.fin
abbrev Af:=@WRun.fin
abbrev A9:=@Nat.lt_succ_self
abbrev Ae:=@Frz.le_refl
end Go.Eng
