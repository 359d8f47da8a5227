import Derived.Test.YtkbjbnkkfifbmaaGreatS10EE
import Derived.RecoverIn
import Derived.ProofKit
import Derived.OpenShut
import Derived.ChangeOld
import Derived.Carry
import Derived.DataElems
import Derived.Laws.StructEq
import Derived.Shelf.SlSortCmp.WholeK
import Derived.Shelf.SlSortCmp.NoneTotal
import Derived.Laws.BytesString
import Derived.Lib.ConvBytes
import Derived.LoopNIn
import Derived.Lib.Bytes
import Derived.Lib.Bytealg
import Derived.Lib.Strings
import Derived.Shelf.GgClosure.StringsIndexFunc
import Derived.Lib.LaidTab
import Derived.Lib.ItoaMem
import Derived.Lib.UnsafeStr
import Derived.MapKept
import Derived.Scope
import Derived.Maps.RangeRun
import Derived.Lib.AppendZerosOnto
import Derived.Laws.Externs
set_option linter.unusedVariables false
set_option linter.unusedSimpArgs false
set_option linter.unusedSectionVars false
namespace Go.Eng
open Go Go.RowKit
def ck (x:Int):Option Int:=if -9223372036854775808≤x∧x≤9223372036854775807 then some x else none
def Nq (x y:Int):Option Int:=if y=0 then none else ck (x.tdiv y)
def F2 (x y:Int):Option Int:=if y=0 then none else some (x.tmod y)
def Bo {α:Type} (l:List α) (i:Int):Option α:=if 0≤i then l[i.toNat]? else none
def Sz {α:Type} (l:List α) (i:Int) (x:α):Option (List α):=if 0≤i∧i<l.length then some (l.set i.toNat x) else none
def Lm {α:Type} (l:List α) (lo hi:Int):Option (List α):=if 0≤lo∧lo≤hi∧hi≤l.length then some ((l.drop lo.toNat).take (hi.toNat-lo.toNat)) else none
def apd {α:Type} (B:Nat) (l k:List α):Option (List α):=if (l.length+k.length)*B≤140737488355328∧l.length+k.length≤9223372036854775807 then some (l++k) else none
def gd {α:Type} (g:Bool) (o:Option α) (d:α):Option α:=bif g then o else some d
theorem A2 {α β:Type} {o:Option α} {f:α→Option β} {r:β} (h:o.bind f=some r):∃x,o=some x∧f x=some r:=Option.bind_eq_some_iff.1 h
theorem Cz {α:Type} {g:Bool} {o:Option α} {d x:α} (h:gd g o d=some x) (hg:g=true):o=some x:=by subst hg;exact h
theorem Ez {α:Type} {c:Bool} {x y z:α} (h:(bif c then x else y)=z) (hc:c=true):x=z:=by subst hc;exact h
theorem Ey {α:Type} {c:Bool} {x y z:α} (h:(bif c then x else y)=z) (hc:c=false):y=z:=by subst hc;exact h
theorem Qh {x y:Int} (h:ck x=some y):y=x∧-9223372036854775808≤x∧x≤9223372036854775807:=by
 unfold ck at h
 split at h
 ·cases h;exact ⟨rfl,by assumption⟩
 ·cases h
theorem Kh {α:Type} {l:List α} {i:Int} {x:α} (h:Bo l i=some x):0≤i∧i<l.length∧l[i.toNat]? = some x:=by
 unfold Bo at h
 split at h
 ·have:=(List.getElem?_eq_some_iff.1 h).1;exact ⟨by assumption,by omega,h⟩
 ·cases h
section
variable {P:Program} {T:World→World→Prop} {D:World→Prop} {w w':World} {cs:List Cd} {t:TypeId} {x y z:Int}
theorem A0w (h:B8 cs=true→ck (x+y)=some z):Ob.ok P T D (.run cs (binOp .add t (.int .i64 x) (.int .i64 y)) (.int .i64 z)) :=
 obC fun hk=>by obtain ⟨rfl,hb⟩:=Qh (h hk);exact A60 hb
theorem Uq (h:B8 cs=true→ck (x-y)=some z):Ob.ok P T D (.run cs (binOp .sub t (.int .i64 x) (.int .i64 y)) (.int .i64 z)) :=
 obC fun hk=>by obtain ⟨rfl,hb⟩:=Qh (h hk);exact A64 hb
theorem A4n (h:B8 cs=true→ck (x*y)=some z):Ob.ok P T D (.run cs (binOp .mul t (.int .i64 x) (.int .i64 y)) (.int .i64 z)) :=
 obC fun hk=>by obtain ⟨rfl,hb⟩:=Qh (h hk);exact A63 hb
theorem A4o (h:B8 cs=true→Nq x y=some z):Ob.ok P T D (.run cs (binOp .quo t (.int .i64 x) (.int .i64 y)) (.int .i64 z)) :=
 obC fun hk=>by
  have h:=h hk;unfold Nq at h
  split at h
  ·cases h
  ·obtain ⟨rfl,hb⟩:=Qh h;have:=A4p (P:=P) (T:=T) (D:=D) (cs:=cs) (t:=t) (x:=x) (y:=y) (by assumption)
   rwa [Go.Eng.wrap64 hb] at this
theorem A4q (h:B8 cs=true→F2 x y=some z):Ob.ok P T D (.run cs (binOp .rem t (.int .i64 x) (.int .i64 y)) (.int .i64 z)) :=
 obC fun hk=>by
  have h:=h hk;unfold F2 at h
  split at h
  ·cases h
  ·cases h;exact A4r (by assumption)
theorem Bf {src dst:TypeId} {k:IntKind} (hs:(P.underlying src).isSome=true) (hd:P.underlying dst=some (.int .i64)) (h:B8 cs=true→ck x=some z) :
  Ob.ok P T D (.run cs (convert src dst (.int k x)) (.int .i64 z)):=obC fun hk=>by obtain ⟨rfl,hb⟩:=Qh (h hk);exact A4l hs hd hb
variable {α:Type} {sz cap:Nat} {f:α→List Value} {ad:Option Addr} {l:List α}
theorem Y9 {i:Nat} {u d:α} (h:l[i]? = some u):l.getD i d=u:=by rw [List.getD_eq_getElem?_getD,h];rfl
end
abbrev Frz:=Nat→Option Obj
def Frz.le (μ ν:Frz):Prop:=∀b o,μ b=some o→ν b=some o
def FrzAt (μ:Frz) (w:World):Prop:=∀b o,μ b=some o→w.heap[b]? = some o
def Eh (w:World):Frz:=fun b=>w.heap[b]?
def Frz.ext (n:Nat) (μ ν:Frz):Prop:=μ.le ν∧∀b o,ν b=some o→b<n→μ b=some o
def B1 (w0:World) (μ:Frz):Prop:=∀b o,b<w0.heap.size→μ b=some o→w0.heap[b]? = some o
def F8 (n:Nat) (μ:Frz):Res where
 foot:=fun b=>n≤b∧∃o,μ b=some o
 holds:=fun w=>∀b o,n≤b→μ b=some o→w.heap[b]? = some o
 loc:=fun w w' h hb b o hn ho=>(h b ⟨hn,o,ho⟩).trans (hb b o hn ho)
 lt:=fun w b hb hk=>by obtain ⟨hn,o,ho⟩:=hk;exact (Array.getElem?_eq_some_iff.1 (hb b o hn ho)).1
theorem Frz.le_refl (μ:Frz):μ.le μ:=fun _ _ h=>h
theorem Frz.le_trans {a b c:Frz} (h:a.le b) (k:b.le c):a.le c:=fun x o hx=>k x o (h x o hx)
theorem Frz.ext_refl (n:Nat) (μ:Frz):μ.ext n μ:=⟨μ.le_refl,fun _ _ h _=>h⟩
theorem Frz.ext_trans {n:Nat} {a b c:Frz} (h:a.ext n b) (k:b.ext n c):a.ext n c:=⟨Frz.le_trans h.1 k.1,fun x o hx hn=>h.2 x o (k.2 x o hx hn) hn⟩
theorem Frz.ext_mono {n m:Nat} {a b:Frz} (h:a.ext n b) (hm:m≤n):a.ext m b:=⟨h.1,fun x o hx hn=>h.2 x o hx (by omega)⟩
theorem Ab (w:World):FrzAt (Eh w) w:=fun _ _ h=>h
theorem FrzAt.le_mem {μ:Frz} {w:World} (h:FrzAt μ w):μ.le (Eh w):=h
theorem FrzAt.low {μ ν:Frz} {w:World} (h:FrzAt ν w) (hle:μ.le ν):FrzAt μ w:=fun b o hb=>h b o (hle b o hb)
section
variable {w0 w w':World} {H:List Res} {μ ν:Frz} {R:Res}
theorem FrzAt.init (h:FrzAt μ w0):B1 w0 μ∧St w0 [F8 w0.heap.size μ] w0 :=
 ⟨fun b o _ hb=>h b o hb,(St.init w0).push (Ext.refl w0) (fun b o _ hb=>h b o hb) (fun _ hb=>hb.1)⟩
theorem St.frz {i:Nat} (h:St w0 H w) (hi:H[i]? = some (F8 w0.heap.size μ)) (hl:B1 w0 μ):FrzAt μ w:=fun b o hb=>by
 rcases Nat.lt_or_ge b w0.heap.size with hlt|hge
 ·exact h.ext.block (hl b o hlt hb)
 ·exact h.res hi b o hge hb
theorem St.freezeT {i j:Nat} (h:St w0 H w) (hi:H[i]? = some (F8 w0.heap.size μ)) (hj:H[j]? = some R) (hij:i≠j) (hl:B1 w0 μ) :
  ∃ν,μ.ext w0.heap.size ν∧B1 w0 ν∧St w0 ((H.set i (F8 w0.heap.size ν)).eraseIdx j) w∧(∀w',FrzAt ν w'→R.holds w')∧∀b,R.foot b→μ b=none∧(∃o,ν b=some o)∧w0.heap.size≤b:=by
 classical
 have hR:=h.res hj;have hRm:R∈H:=List.mem_of_getElem? hj;refine ⟨fun b=>if R.foot b then w.heap[b]? else μ b,⟨fun b o hb=>?_,fun b o hb hn=>?_⟩,fun b o hlt hb=>?_,?_,fun w' hw'=>?_,fun b hf=>?_⟩
 ·by_cases hf:R.foot b
  ·simp only [if_pos hf];exact h.frz hi hl b o hb
  ·simp only [if_neg hf];exact hb
 ·have hf:¬R.foot b:=fun hf=>by have:=h.low R hRm b hf;omega
  simp only [if_neg hf] at hb;exact hb
 ·have hf:¬R.foot b:=fun hf=>by have:=h.low R hRm b hf;omega
  simp only [if_neg hf] at hb;exact hl b o hlt hb
 ·
  have hlen:i<H.length:=(List.getElem?_eq_some_iff.1 hi).1;have hjl:j<H.length:=(List.getElem?_eq_some_iff.1 hj).1;have hget:∀S,S∈(H.set i (F8 w0.heap.size fun b=>if R.foot b then w.heap[b]? else μ b)).eraseIdx j→S=F8 w0.heap.size (fun b=>if R.foot b then w.heap[b]? else μ b)∨∃k,k≠i∧k≠j∧H[k]? = some S:=by
   intro S hS;obtain ⟨k,hk⟩:=List.mem_iff_getElem?.1 hS;rw [List.getElem?_eraseIdx] at hk
   by_cases hkj:k<j
   ·rw [if_pos hkj] at hk
    by_cases hki:k=i
    ·subst hki;rw [List.getElem?_set_self hlen] at hk;cases hk;exact .inl rfl
    ·rw [List.getElem?_set_ne (Ne.symm hki)] at hk;exact .inr ⟨k,hki,by omega,hk⟩
   ·rw [if_neg hkj] at hk
    by_cases hki:k+1=i
    ·rw [hki,List.getElem?_set_self hlen] at hk;cases hk;exact .inl rfl
    ·rw [List.getElem?_set_ne (Ne.symm hki)] at hk;exact .inr ⟨k+1,hki,by omega,hk⟩
  have apart:∀(p q:Nat) (S S':Res),p≠q→H[p]? = some S→H[q]? = some S'→∀b,S.foot b→¬S'.foot b:=by
   intro p q S S' hpq hp hq b hb hb';have hp1:=(List.getElem?_eq_some_iff.1 hp).1;have hq1:=(List.getElem?_eq_some_iff.1 hq).1;have e1:H[p]=S:=(List.getElem?_eq_some_iff.1 hp).2;have e2:H[q]=S':=(List.getElem?_eq_some_iff.1 hq).2;rcases Nat.lt_or_gt_of_ne hpq with hlt|hgt
   ·have:=List.pairwise_iff_getElem.1 h.apart p q hp1 hq1 hlt;rw [e1,e2] at this;exact this b hb hb'
   ·have:=List.pairwise_iff_getElem.1 h.apart q p hq1 hp1 hgt;rw [e1,e2] at this;exact this b hb' hb
  have hnew:∀k S,k≠i→k≠j→H[k]? = some S→∀b,(F8 w0.heap.size fun b=>if R.foot b then w.heap[b]? else μ b).foot b→¬S.foot b:=by
   intro k S hki hkj hk b hb hSb;obtain ⟨hn,o,ho⟩:=hb
   by_cases hf:R.foot b
   ·exact apart j k R S (Ne.symm hkj) hj hk b hf hSb
   ·simp only [if_neg hf] at ho;exact apart i k _ S (Ne.symm hki) hi hk b ⟨hn,o,ho⟩ hSb
  refine ⟨h.ext,fun S hS=>?_,fun S hS b hb=>?_,?_⟩
  ·rcases hget S hS with rfl|⟨k,_,_,hk⟩
   ·intro b o hn ho
    by_cases hf:R.foot b
    ·simp only [if_pos hf] at ho;exact ho
    ·simp only [if_neg hf] at ho;exact h.res hi b o hn ho
   ·exact h.res hk
  ·rcases hget S hS with rfl|⟨k,_,_,hk⟩
   ·exact hb.1
   ·exact h.low S (List.mem_of_getElem? hk) b hb
  ·rw [List.pairwise_iff_getElem];intro p q hp hq hpq b hb hb';have key:∀z (hz:z<((H.set i (F8 w0.heap.size fun b=>if R.foot b then w.heap[b]? else μ b)).eraseIdx j).length),∃z',(p<q→True)∧((H.set i (F8 w0.heap.size fun b=>if R.foot b then w.heap[b]? else μ b))[z']? = some ((H.set i (F8 w0.heap.size fun b=>if R.foot b then w.heap[b]? else μ b)).eraseIdx j)[z])∧z'≠j∧(z'=if z<j then z else z+1):=by
    intro z hz;have hz2:=List.getElem?_eq_getElem hz;rw [List.getElem?_eraseIdx] at hz2
    by_cases hzj:z<j
    ·rw [if_pos hzj] at hz2;exact ⟨z,fun _=>trivial,hz2,by omega,by rw [if_pos hzj]⟩
    ·rw [if_neg hzj] at hz2;exact ⟨z+1,fun _=>trivial,hz2,by omega,by rw [if_neg hzj]⟩
   obtain ⟨p',_,hp',hpj,ep⟩:=key p hp;obtain ⟨q',_,hq',hqj,eq⟩:=key q hq;have hpq':p'≠q':=by rw [ep,eq];split<;>split<;>omega
   by_cases hpi:p'=i
   ·rw [hpi,List.getElem?_set_self hlen] at hp';have hqi:q'≠i:=fun e=>hpq' (by rw [hpi,e]);rw [List.getElem?_set_ne (Ne.symm hqi)] at hq';rw [←Option.some.inj hp'] at hb;exact hnew q' _ hqi hqj hq' b hb hb'
   ·rw [List.getElem?_set_ne (Ne.symm hpi)] at hp'
    by_cases hqi:q'=i
    ·rw [hqi,List.getElem?_set_self hlen] at hq';rw [←Option.some.inj hq'] at hb';exact hnew p' _ hpi hpj hp' b hb' hb
    ·rw [List.getElem?_set_ne (Ne.symm hqi)] at hq';exact apart p' q' _ _ hpq' hp' hq' b hb hb'
 ·refine R.loc w w' (fun b hb=>?_) hR;have hbl:=R.lt w b hR hb;have:w.heap[b]? = some w.heap[b]:=Array.getElem?_eq_getElem hbl;rw [this];exact hw' b _ (by simp only [if_pos hb];exact this)
 ·have hbl:=R.lt w b hR hf;have hlo:=h.low R hRm b hf;refine ⟨?_,⟨w.heap[b],by simp only [if_pos hf];exact Array.getElem?_eq_getElem hbl⟩,hlo⟩
  cases hm:μ b with
  | none=>rfl
  | some o =>
   exfalso;have hp1:=(List.getElem?_eq_some_iff.1 hi).1;have hq1:=(List.getElem?_eq_some_iff.1 hj).1;have e1:=(List.getElem?_eq_some_iff.1 hi).2;have e2:=(List.getElem?_eq_some_iff.1 hj).2;rcases Nat.lt_or_gt_of_ne hij with hlt|hgt
   ·have:=List.pairwise_iff_getElem.1 h.apart i j hp1 hq1 hlt;rw [e1,e2] at this;exact this b ⟨hlo,o,hm⟩ hf
   ·have:=List.pairwise_iff_getElem.1 h.apart j i hq1 hp1 hgt;rw [e1,e2] at this;exact this b hf ⟨hlo,o,hm⟩
theorem St.freeze {i j:Nat} (h:St w0 H w) (hi:H[i]? = some (F8 w0.heap.size μ)) (hj:H[j]? = some R) (hij:i≠j) (hl:B1 w0 μ) :
  ∃ν,μ.ext w0.heap.size ν∧B1 w0 ν∧St w0 ((H.set i (F8 w0.heap.size ν)).eraseIdx j) w∧∀w',FrzAt ν w'→R.holds w':=by
 obtain ⟨ν,h1,h2,h3,h4,_⟩:=h.freezeT hi hj hij hl;exact ⟨ν,h1,h2,h3,h4⟩
theorem St.thaw {ν':Frz} (h:St w0 (F8 w0.heap.size ν'::H) w) (hl:B1 w0 ν') (hle:ν.le ν') (hμ:μ.le ν) (hR:∀w',FrzAt ν w'→R.holds w') (hf:∀b,R.foot b→μ b=none∧(∃o,ν b=some o)∧w0.heap.size≤b) :
  St w0 (R::F8 w0.heap.size μ::H) w:=by
 have hat:FrzAt ν' w:=h.frz (i:=0) rfl hl;have hp:=List.pairwise_cons.1 h.apart;refine ⟨h.ext,fun S hS=>?_,fun S hS b hb=>?_,?_⟩
 ·rcases List.mem_cons.1 hS with rfl|hS
  ·exact hR w (hat.low hle)
  ·rcases List.mem_cons.1 hS with rfl|hS
   ·exact fun b o hn ho=>hat b o (hle b o (hμ b o ho))
   ·exact h.holds S (List.mem_cons_of_mem _ hS)
 ·rcases List.mem_cons.1 hS with rfl|hS
  ·exact (hf b hb).2.2
  ·rcases List.mem_cons.1 hS with rfl|hS
   ·exact hb.1
   ·exact h.low S (List.mem_cons_of_mem _ hS) b hb
 ·refine List.pairwise_cons.2 ⟨fun S hS b hb hb'=>?_,List.pairwise_cons.2 ⟨fun S hS b hb hb'=>?_,hp.2⟩⟩
  ·obtain ⟨h1,⟨o,h2⟩,h3⟩:=hf b hb;rcases List.mem_cons.1 hS with rfl|hS
   ·obtain ⟨_,o',ho'⟩:=hb';rw [h1] at ho';cases ho'
   ·exact hp.1 S hS b ⟨h3,o,hle b o h2⟩ hb'
  ·obtain ⟨h1,o,h2⟩:=hb;exact hp.1 S hS b ⟨h1,o,hle b o (hμ b o h2)⟩ hb'
theorem St.frzMerge {i:Nat} {Hn:List Res} (h:St w0 H w) (hi:H[i]? = some (F8 w0.heap.size μ)) (hl:B1 w0 μ) (hx:μ.ext w.heap.size ν) (hQ:St w (F8 w.heap.size ν::Hn) w') :
  B1 w0 ν∧St w0 (Hn++H.set i (F8 w0.heap.size ν)) w':=by
 have hsz:=h.ext.size;refine ⟨fun b o hlt hb=>hl b o hlt (hx.2 b o hb (by omega)),?_⟩;have h1:St w0 (F8 w.heap.size ν::Hn++H) w':=h.madeL hQ;have hlen:i<H.length:=(List.getElem?_eq_some_iff.1 hi).1;have hnew:St w0 (F8 w.heap.size ν::Hn) w':=h1.sub (List.sublist_append_left _ _);have hold:St w0 H w':=h1.sub (List.sublist_append_right _ _);have hp:=List.pairwise_append.1 h1.apart;have hph:=List.pairwise_cons.1 hp.1;have cases_:∀b o,w0.heap.size≤b→ν b=some o→(F8 w0.heap.size μ).foot b∨(F8 w.heap.size ν).foot b:=by
  intro b o hn hb;rcases Nat.lt_or_ge b w.heap.size with hlt|hge
  ·exact .inl ⟨hn,o,hx.2 b o hb hlt⟩
  ·exact .inr ⟨hge,o,hb⟩
 have hset:∀S,S∈H.set i (F8 w0.heap.size ν)→S=F8 w0.heap.size ν∨∃k,k≠i∧H[k]? = some S:=by
  intro S hS;obtain ⟨k,hk⟩:=List.mem_iff_getElem?.1 hS
  by_cases hki:k=i
  ·subst hki;rw [List.getElem?_set_self hlen] at hk;cases hk;exact .inl rfl
  ·rw [List.getElem?_set_ne (Ne.symm hki)] at hk;exact .inr ⟨k,hki,hk⟩
 have himem:F8 w0.heap.size μ∈H:=List.mem_of_getElem? hi;have apart:∀(p q:Nat) (S S':Res),p≠q→H[p]? = some S→H[q]? = some S'→∀b,S.foot b→¬S'.foot b:=by
  intro p q S S' hpq hp hq b hb hb';have hp1:=(List.getElem?_eq_some_iff.1 hp).1;have hq1:=(List.getElem?_eq_some_iff.1 hq).1;have e1:H[p]=S:=(List.getElem?_eq_some_iff.1 hp).2;have e2:H[q]=S':=(List.getElem?_eq_some_iff.1 hq).2;rcases Nat.lt_or_gt_of_ne hpq with hlt|hgt
  ·have:=List.pairwise_iff_getElem.1 hold.apart p q hp1 hq1 hlt;rw [e1,e2] at this;exact this b hb hb'
  ·have:=List.pairwise_iff_getElem.1 hold.apart q p hq1 hp1 hgt;rw [e1,e2] at this;exact this b hb' hb
 have hnn:∀S,S∈Hn→∀b,(F8 w0.heap.size ν).foot b→¬S.foot b:=by
  intro S hS b hb hSb;obtain ⟨hn,o,ho⟩:=hb;rcases cases_ b o hn ho with hb|hb
  ·exact hp.2.2 S (List.mem_cons_of_mem _ hS) _ himem b hSb hb
  ·exact hph.1 S hS b hb hSb
 have hno:∀k S,k≠i→H[k]? = some S→∀b,(F8 w0.heap.size ν).foot b→¬S.foot b:=by
  intro k S hki hk b hb hSb;obtain ⟨hn,o,ho⟩:=hb;rcases cases_ b o hn ho with hb|hb
  ·exact apart i k _ S (Ne.symm hki) hi hk b hb hSb
  ·exact hp.2.2 _ (List.mem_cons_self ..) S (List.mem_of_getElem? hk) b hb hSb
 refine ⟨h1.ext,fun S hS=>?_,fun S hS b hb=>?_,?_⟩
 ·rcases List.mem_append.1 hS with hS|hS
  ·exact hnew.holds S (List.mem_cons_of_mem _ hS)
  ·rcases hset S hS with rfl|⟨k,_,hk⟩
   ·intro b o hn ho;rcases cases_ b o hn ho with hb|hb
    ·obtain ⟨_,o',ho'⟩:=hb;have:=hold.res hi b o' hn ho';rw [this,←hx.1 b o' ho',ho]
    ·exact hnew.res (i:=0) rfl b o hb.1 ho
   ·exact hold.res hk
 ·rcases List.mem_append.1 hS with hS|hS
  ·exact hnew.low S (List.mem_cons_of_mem _ hS) b hb
  ·rcases hset S hS with rfl|⟨k,_,hk⟩
   ·exact hb.1
   ·exact hold.low S (List.mem_of_getElem? hk) b hb
 ·refine List.pairwise_append.2 ⟨hph.2,?_,fun S hS S' hS' b hb hb'=>?_⟩
  ·rw [List.pairwise_iff_getElem];intro p q hp1 hq1 hpq b hb hb';have hp2:p<H.length:=by simpa using hp1
   have hq2:q<H.length:=by simpa using hq1
   by_cases hpi:p=i
   ·subst hpi;rw [List.getElem_set_self] at hb;rw [List.getElem_set_ne (by omega)] at hb';exact hno q _ (by omega) (List.getElem?_eq_getElem hq2) b hb hb'
   ·rw [List.getElem_set_ne (Ne.symm hpi)] at hb
    by_cases hqi:q=i
    ·subst hqi;rw [List.getElem_set_self] at hb';exact hno p _ hpi (List.getElem?_eq_getElem hp2) b hb' hb
    ·rw [List.getElem_set_ne (Ne.symm hqi)] at hb';exact apart p q _ _ (by omega) (List.getElem?_eq_getElem hp2) (List.getElem?_eq_getElem hq2) b hb hb'
  ·rcases hset S' hS' with rfl|⟨k,_,hk⟩
   ·exact hnn S hS b hb' hb
   ·exact hp.2.2 S (List.mem_cons_of_mem _ hS) S' (List.mem_of_getElem? hk) b hb hb'
end
inductive All2 {α β:Type} (R:α→β→Prop):List α→List β→Prop
 | nil:All2 R [] []
 | cons {x:α} {y:β} {xs:List α} {ys:List β}:R x y→All2 R xs ys→All2 R (x::xs) (y::ys)
def ArrM {α:Type} (μ:Frz) (sz:Nat) (f:α→List Value) (ad:Option Addr) (cap:Nat) (l:List α):Prop:=∀w,FrzAt μ w→Arr w sz f ad l.length cap l
def BlkM (μ:Frz) (b:Nat) (t:TypeId) (cs:Array Value):Prop:=∀w,FrzAt μ w→Blk w b t cs
section
variable {w w':World} {μ ν:Frz} {α:Type} {sz cap n e:Nat} {f:α→List Value} {ad:Option Addr} {l:List α}
theorem ArrM.mono (h:ArrM μ sz f ad cap l) (hle:μ.le ν):ArrM ν sz f ad cap l:=fun w hw=>h w (hw.low hle)
theorem BlkM.mono {b:Nat} {t:TypeId} {cs:Array Value} (h:BlkM μ b t cs) (hle:μ.le ν):BlkM ν b t cs:=fun w hw=>h w (hw.low hle)
theorem ArrM.nil:ArrM μ sz f none 0 ([]:List α):=fun _ _=>Arr.nil
theorem Arr.alike (h:Arr w sz f ad n cap l) (hw:FrzAt (Eh w) w'):Arr w' sz f ad n cap l:=by
 obtain ⟨h1,ad',cap',e,h2,h3,h4,h5⟩:=h;refine ⟨h1,ad',cap',e,h2,h3,h4,fun hn=>?_⟩;obtain ⟨a,h6,h7,h8⟩:=h5 hn;have hb:∀k,k<w.heap.size→w'.heap[k]? = w.heap[k]?:=fun k hk=>by
  have:w.heap[k]? = some w.heap[k]:=Array.getElem?_eq_getElem hk;rw [this];exact hw k _ this
 refine ⟨a,h6,?_,fun j u hu=>?_⟩
 ·have:=hb _ h7;rw [Array.getElem?_eq_getElem h7] at this;exact (Array.getElem?_eq_some_iff.1 this).1
 ·have:=h8 j u hu;unfold World.cell? at this ⊢;rw [N6] at this ⊢;rw [hb _ h7];exact this
theorem Arr.toM (h:Arr w sz f ad l.length cap l):ArrM (Eh w) sz f ad cap l:=fun _ hw=>h.alike hw
theorem ArrM.of_arr (h:∀w,FrzAt ν w→(arr e sz f ad l.length cap l).holds w):ArrM ν sz f ad cap l:=fun w hw=>⟨rfl,Sl.of_own (h w hw).2⟩
theorem Eg {β:Type} {R:α→β→Prop} {xs:List α} {ys:List β} (h:All2 R xs ys) {i:Int} {y:β} (hy:Bo ys i=some y):∃x,Bo xs i=some x∧R x y:=by
 have h0:=(Kh hy).1;have hg:=(Kh hy).2.2;unfold Bo;rw [if_pos h0]
 clear hy h0
 generalize i.toNat=k at hg
 induction h generalizing k with
 | nil=>simp at hg
 | cons hR _ ih =>
  cases k with
  | zero=>simp at hg;subst hg;exact ⟨_,rfl,hR⟩
  | succ k=>simp at hg;exact ih k hg
end
end Go.Eng
namespace Go.Eng
open Go Go.RowKit
def SK (P:Program) (r:Option Nat) (ops:Array Oper) (k:Nat) (K:Act→World→Prop) (a:Act) (w:World):Prop :=
 ∃o,ops[k]? = some o∧OpG P r ops o a w (fun v w'=>K (a.put o.dst v) w')
section
variable {P:Program} {r:Option Nat} {ops:Array Oper} {Q:Exit→Act→World→Prop} {K:Act→World→Prop} {N:Nat} {ds:List Deferred} {M M':List (Nat×Value)} {a:Act} {w w0 w':World} {H:List Res} {k:Nat}
theorem SK.wi (h:SK P r ops k (fun a w=>WI P r ops Q (k+1) a w) a w):WI P r ops Q k a w:=by
 obtain ⟨o,ho,h⟩:=h;exact WI.cons ho h (fun _ _ h=>h)
theorem Wb {o:Oper} {v:Value} (hF:Fr N ds M a) (hdst:An ops N=true) (ho:plainAt ops k M=some o) (hr:(execOp (rhoE (ofM M)) o).run P w=.ok (.value v) w')
  (hM:NextM ops k M v M') (next:∀a',Fr N ds M' a'→K a' w'):SK P r ops k K a w:=by
 obtain ⟨h1,h2,h3⟩:=Fm (r:=r) ho hF;refine ⟨o,h1,?_⟩;unfold OpG OpR;rw [if_pos h2,h3,hr];exact next _ (Er h1 hdst hF hM)
theorem A3p {o:Oper} (hF:Fr N ds M a) (hdst:An ops N=true) (ho:plainAt ops k M=some o) (hr:(execOp (rhoE (ofM M)) o).run P w=.ok .skip w')
  (hM:NextM ops k M undef M') (next:∀a',Fr N ds M' a'→K a' w'):SK P r ops k K a w:=by
 obtain ⟨h1,h2,h3⟩:=Fm (r:=r) ho hF;refine ⟨o,h1,?_⟩;unfold OpG OpR;rw [if_pos h2,h3,hr];exact next _ (Er h1 hdst hF hM)
theorem T6 {s:Sem Value} {v:Value} (hF:Fr N ds M a) (hdst:An ops N=true) (hs:EffAt ops k M s) (hr:s.run P w=.ok v w')
  (hM:NextM ops k M v M') (next:∀a',Fr N ds M' a'→K a' w'):SK P r ops k K a w:=by
 have hs:=hs.eq
 cases ho:plainAt ops k M with
 | none=>rw [ho] at hs;simp at hs
 | some o =>
  rw [ho] at hs;exact Wb hF hdst ho (Ww hs hr).2 hM next
theorem A3x (M':Nat→List (Nat×Value)) {t:TypeId} (v:Value) (cs:Array Value) (hF:Fr N ds M a) (hS:St w0 H w) (hdst:An ops N=true) (hs:EffAt ops k M (Instr.box t v)) (hcs:v.cells=cs)
  (hM:∀b,NextM ops k M (.pointer (some ⟨b,0,none⟩)) (M' b))
  (next:∀b w' a',Fr N ds (M' b) a'→St w0 (blk b t cs::H) w'→K a' w'):SK P r ops k K a w:=by
 refine T6 hF hdst hs (v:=.pointer (some ⟨w.heap.size,0,none⟩)) (w':={ w with heap:=w.heap.push (.cells cs t) }) ?_ (hM _) ?_
 ·subst hcs;simp [Instr.box,newVar,newRow]
 ·intro a' hF';exact next _ _ a' hF' (hS.push (Pf w _) (U9 w t cs) (fun b hb=>by rw [show b=w.heap.size from hb];exact Nat.le_refl _))
theorem A3v (M':Nat→List (Nat×Value)) {t:TypeId} (cs:Array Value) (hF:Fr N ds M a) (hS:St w0 H w) (hdst:An ops N=true) (hs:EffAt ops k M (Instr.alloc t true (.tuple #[])))
  (hz:((P.info? t).bind (·.zero)).map Value.cells=some cs) (hM:∀b,NextM ops k M (.pointer (some ⟨b,0,none⟩)) (M' b))
  (next:∀b w' a',Fr N ds (M' b) a'→St w0 (blk b t cs::H) w'→K a' w'):SK P r ops k K a w:=by
 refine T6 hF hdst hs (v:=.pointer (some ⟨w.heap.size,0,none⟩)) (w':={ w with heap:=w.heap.push (.cells cs t) }) ?_ (hM _) ?_
 ·cases hi:P.info? t with
  | none=>rw [hi] at hz;simp at hz
  | some i =>
   cases hzz:i.zero with
   | none=>rw [hi] at hz;simp [hzz] at hz
   | some z =>
    rw [hi] at hz;simp [hzz] at hz;subst hz;simp [Instr.alloc,zeroValue,typeInfo,hi,hzz,newVar,newRow]
 ·intro a' hF';exact next _ _ a' hF' (hS.push (Pf w _) (U9 w t cs) (fun b hb=>by rw [show b=w.heap.size from hb];exact Nat.le_refl _))
theorem Ri {t:TypeId} {p:Addr} {v:Value} (hF:Fr N ds M a) (hdst:An ops N=true) (hs:StoreAt ops k M t (.pointer (some p)) v) (hr:(storeVar t p v).run P w=.ok () w')
  (hM:NextM ops k M undef M') (next:∀a',Fr N ds M' a'→K a' w'):SK P r ops k K a w:=by
 have hs:=hs.eq
 cases ho:plainAt ops k M with
 | none=>rw [ho] at hs;simp at hs
 | some o =>
  rw [ho] at hs;simp only [Option.bind_some] at hs
  split at hs
  ·rename_i t' x y hop
   simp at hs;obtain ⟨rfl,h1,h2⟩:=hs;refine A3p hF hdst ho ?_ hM next
   unfold execOp;rw [hop];simp [Instr.storeAt,Instr.sureAddr,h1,h2,hr]
  ·simp at hs
theorem P5 (M':List (Nat×Value)) (i:Nat) {t tt:TypeId} {b:Nat} {cs:Array Value} (off:Nat) (v:Value) (cs':Array Value) (hF:Fr N ds M a) (hS:St w0 H w) (hi:H[i]? = some (blk b tt cs)) (hdst:An ops N=true)
  (hs:StoreAt ops k M t (.pointer (some ⟨b,off,none⟩)) v) (hsz:pureSem P (sizeOf t)=some v.cells.size) (hone:v.cells.toList.all Value.oneCell'=true) (hfit:Nat.ble (off+v.cells.size) cs.size=true) (hcs:V3 cs off v.cells.toList=cs')
  (hM:NextM ops k M undef M') (next:∀w' a',Fr N ds M' a'→St w0 (H.set i (blk b tt cs')) w'→K a' w'):SK P r ops k K a w:=by
 have hb:=hS.blk hi;have hsz':=B3 _ _ hsz w;have hst:=run_storeCells_at P b off tt v.cells.toList 0 cs w hb (by simpa using Nat.le_of_ble_eq_true hfit) (fun u hu=>List.all_eq_true.1 hone u hu);simp only [Nat.add_zero] at hst;refine Ri hF hdst hs (w':=w.setRow b cs') ?_ hM ?_
 ·subst hcs;unfold V3;simp [storeVar,hsz',hst]
 ·intro a' hF';refine next _ a' hF' (hS.upd hi rfl rfl rfl (by simp [World.setRow]) (fun j _ hj=>setRow_other w b j _ hj) ?_ (fun j hj=>.inl hj))
  show (w.setRow b cs').heap[b]? = _;exact setRow_heap w b cs _ tt _ hb
theorem A5l (M':Value→List (Nat×Value)) {f:FuncId} {args:Array Value} {R:Value→World→Prop} (hF:Fr N ds M a) (hdst:An ops N=true) (hs:CallAt P ops k M f args)
  (hc:Calls P f args w (fun e w'=>∃v,e=.returned v∧R v w')) (hM:∀v,NextM ops k M v (M' v)) (next:∀v w' a',R v w'→Fr N ds (M' v) a'→K a' w'):SK P r ops k K a w:=by
 have hs:=hs.eq
 cases ho:plainAt ops k M with
 | none=>rw [ho] at hs;simp at hs
 | some o =>
  rw [ho] at hs;simp only [Option.bind_some] at hs
  split at hs
  ·rename_i f' args' hp
   simp at hs;obtain ⟨rfl,rfl⟩:=hs;obtain ⟨h1,h2,h3⟩:=Fm (r:=r) ho hF;refine ⟨o,h1,?_⟩;unfold OpG OpR;rw [if_pos h2,h3,B3 _ _ hp w];refine Calls.mono hc ?_;rintro e w'' ⟨v,rfl,hv⟩;exact ⟨v,rfl,next v w'' _ hv (Er h1 hdst hF (hM v))⟩
  ·simp at hs
def Bd (P:Program) (f:FuncId) (args:Array Value) (w:World) (R:Value→World→Prop):Prop:=Calls P f args w (fun e w'=>∃v,e=.returned v∧R v w')
theorem A3k (M':Value→List (Nat×Value)) {f:FuncId} {args:Array Value} {R:Value→World→Prop} (hF:Fr N ds M a) (hdst:An ops N=true) (hs:CallAt P ops k M f args)
  (hc:Bd P f args w R) (hM:∀v,NextM ops k M v (M' v)) (next:∀v w' a',R v w'→Fr N ds (M' v) a'→K a' w'):SK P r ops k K a w:=A5l M' hF hdst hs hc hM next
theorem Ma (M':List (Nat×Value)) {f:FuncId} {args:Array Value} {v:Value} (hF:Fr N ds M a) (hdst:An ops N=true) (hs:CallAt P ops k M f args)
  (hc:Calls P f args w (fun e w'=>e=.returned v∧Ext w w')) (hM:NextM ops k M v M') (next:∀w' a',Ext w w'→Fr N ds M' a'→K a' w'):SK P r ops k K a w:=by
 have hs:=hs.eq
 cases ho:plainAt ops k M with
 | none=>rw [ho] at hs;simp at hs
 | some o =>
  rw [ho] at hs;simp only [Option.bind_some] at hs
  split at hs
  ·rename_i f' args' hp
   simp at hs;obtain ⟨rfl,rfl⟩:=hs;obtain ⟨h1,h2,h3⟩:=Fm (r:=r) ho hF;refine ⟨o,h1,?_⟩;unfold OpG OpR;rw [if_pos h2,h3,B3 _ _ hp w];refine Calls.mono hc ?_;rintro e w'' ⟨rfl,hv⟩;exact ⟨v,rfl,next w'' _ hv (Er h1 hdst hF hM)⟩
  ·simp at hs
variable {α:Type} {e sz cap:Nat} {f:α→List Value} {ad:Option Addr} {l:List α}
theorem Z0 (M':Nat→List (Nat×Value)) {t len:Nat} (parts:Array (Nat×Value)) (cs:Array Value) (l:List α) (hF:Fr N ds M a) (hS:St w0 H w) (hdst:An ops N=true) (hs:EffAt ops k M (Instr.buildSlice t len parts))
  (hb:J8 P t len parts=some (e,cs)) (hf:∀x,(f x).length=sz) (hl:l.length=len) (hc:l.flatMap f=cs.toList) (hn:Nat.ble len 16777216=true) (hM:∀b,NextM ops k M (.slice (some ⟨b,0,none⟩) len len) (M' b))
  (next:∀b w' a',Fr N ds (M' b) a'→St w0 (arr e sz f (some ⟨b,0,none⟩) l.length len l::H) w'→K a' w'):SK P r ops k K a w:=by
 subst hl;refine T6 hF hdst hs (Nu hb) (hM _) ?_;intro a' hF';have h1:St w0 (blk w.heap.size e cs::H) { w with heap:=w.heap.push (.cells cs e) }:=hS.push (Pf w _) (U9 w e cs) (fun b hb=>by rw [show b=w.heap.size from hb];exact Nat.le_refl _);have h2:=h1.blk_arr (f:=f) (sz:=sz) (l:=l) (n:=l.length) hf rfl hc (by have:=Nat.le_of_ble_eq_true hn;simp only [maxLen];omega);exact next _ _ a' hF' h2
theorem Mq {B:Nat} {l l' l3:List α} (h:apd B l l'=some l3):l3=l++l'∧(l.length+l'.length)*B≤140737488355328∧l.length+l'.length≤maxLen:=by
 unfold apd at h
 split at h
 ·cases h;rename_i h;exact ⟨rfl,h.1,h.2⟩
 ·cases h
theorem A3w (M':Option Addr→Nat→List (Nat×Value)) (i:Nat) {t ty bytes scap:Nat} {sad:Option Addr} {l' l3:List α} (hF:Fr N ds M a) (hS:St w0 H w) (hi:H[i]? = some (arr e sz f ad l.length cap l)) (hdst:An ops N=true)
  (hs:EffAt ops k M (Builtin.append_ #[t,t] ty #[.slice ad l.length cap,.slice sad l'.length scap])) (hty:Gz P t e sz bytes=true) (hsrc:Arr w sz f sad l'.length scap l') (h1:∀x∈l',(f x).all Value.oneCell'=true) (hap:apd bytes l l'=some l3)
  (hM:∀ad2 cap2,NextM ops k M (.slice ad2 l3.length cap2) (M' ad2 cap2))
  (next:∀ad2 cap2 w' a',Fr N ds (M' ad2 cap2) a'→St w0 (H.set i (arr e sz f ad2 l3.length cap2 l3)) w'→K a' w'):SK P r ops k K a w:=by
 obtain ⟨rfl,hb,h63⟩:=Mq hap;have hold:=hS.holds _ (List.mem_of_getElem? hi);obtain ⟨ad2,cap2,w',hr,hown,hg,hblk⟩:=A2v (ty:=ty) hty hold.2 hsrc.2 (fun u hu=>by
  obtain ⟨x,hx,hux⟩:=List.mem_flatMap.1 hu;exact List.all_eq_true.1 (h1 x hx) u hux) hb h63
 have hlen:(l++l').length=l.length+l'.length:=List.length_append;refine T6 hF hdst hs hr (by rw [←hlen];exact hM ad2 cap2) ?_;intro a' hF';rw [←List.flatMap_append] at hown;refine next ad2 cap2 w' a' hF' (hS.upd hi hg.os hg.tape hg.output hg.size (fun j hj hnj=>hg.block j hj (fun e=>hnj e.symm)) ⟨rfl,?_⟩ ?_)
 ·rw [hlen];exact hown
 ·rw [hlen];exact hblk
theorem Rn (hf:∀x,(f x).length=sz) {x':α} {us:List Value} {j:Nat} (hj:j+us.length≤sz):∀(l:List α) (i:Nat) (x:α),l[i]? = some x→f x'=(f x).take j++us++(f x).drop (j+us.length) →
  (l.flatMap f).take (i*sz+j)++us++(l.flatMap f).drop (i*sz+j+us.length)=(l.set i x').flatMap f:=by
 intro l
 induction l with
 | nil=>intro i x h;simp at h
 | cons y l ih =>
  intro i x h hx
  cases i with
  | zero =>
   simp at h;subst h;have hy:=hf y;simp only [Nat.zero_mul,Nat.zero_add,List.flatMap_cons,List.set_cons_zero,hx];rw [List.take_append_of_le_length (by omega),List.drop_append_of_le_length (by omega)];simp [List.append_assoc]
  | succ i =>
   simp at h;have:=ih i x h hx;have hy:=hf y;have e1:(i+1)*sz+j=(f y).length+(i*sz+j):=by rw [hy,Nat.add_mul];omega
   simp only [List.flatMap_cons,List.set_cons_succ];rw [e1,List.take_length_add_append,Nat.add_assoc,List.drop_length_add_append,←this];simp [List.append_assoc]
theorem Mf {β:Type} {cur us:List β} {p T:Nat} (h1:p+us.length≤T) (h2:T≤cur.length):(cur.take p++us++cur.drop (p+us.length)).take T=(cur.take T).take p++us++(cur.take T).drop (p+us.length):=by
 have e1:(cur.take p).length=p:=by rw [List.length_take];omega
 have e2:(cur.take p++us).length=p+us.length:=by rw [List.length_append,e1]
 rw [List.take_append,List.take_append,e1,e2,List.take_take,List.take_take,Nat.min_eq_right (by omega),Nat.min_eq_left (by omega),List.take_of_length_le (l:=us) (by omega),List.drop_take]
theorem Ts {l l3:List α} {i:Int} {x:α} (h:Sz l i x=some l3):0≤i∧i<l.length∧l3=l.set i.toNat x:=by
 unfold Sz at h
 split at h
 ·cases h;rename_i h;exact ⟨h.1,h.2,rfl⟩
 ·cases h
theorem A6g (M':List (Nat×Value)) (i:Nat) {t:Nat} {j:Int} (off:Nat) (u x:α) (v:Value) {l3:List α} (hF:Fr N ds M a) (hS:St w0 H w) (hi:H[i]? = some (arr e sz f ad l.length cap l)) (hdst:An ops N=true)
  (hs:StoreAt ops k M t (.pointer (some ((At ad j sz).add off))) v) (hf:∀x,(f x).length=sz) (hu:Bo l j=some u) (hx:f x=(f u).take off++v.cells.toList++(f u).drop (off+v.cells.toList.length)) (hfit:Nat.ble (off+v.cells.toList.length) sz=true)
  (hsz:pureSem P (sizeOf t)=some v.cells.size) (hone:v.cells.toList.all Value.oneCell'=true) (hl3:Sz l j x=some l3) (hM:NextM ops k M undef M')
  (next:∀w' a',Fr N ds M' a'→l.length=l3.length→St w0 (H.set i (arr e sz f ad l.length cap l3)) w'→K a' w'):SK P r ops k K a w:=by
 have hold:=hS.holds _ (List.mem_of_getElem? hi);obtain ⟨h0,hjl,hgu⟩:=Kh hu;obtain ⟨_,_,rfl⟩:=Ts hl3;have hfit':=Nat.le_of_ble_eq_true hfit;rcases hold.2.2 with ⟨h',hz⟩|⟨g,cap',cur,h',hbase,hg,hnc,hcm,hcs,htake⟩
 ·have:l.length=0:=hz;omega
 ·simp only [Value.slice.injEq,true_and] at h';obtain ⟨rfl,rfl⟩:=h';have hjn:j.toNat<l.length:=by omega
  have hoff:j.toNat*sz+off+v.cells.toList.length≤l.length*sz:=by
   have:=Nat.mul_le_mul_right sz (show j.toNat+1≤l.length by omega);rw [Nat.add_mul] at this;omega
  have hcap:l.length*sz≤cap*sz:=Nat.mul_le_mul_right sz hnc;have hadd:(At (some ⟨g,0,none⟩) j sz).add off=⟨g,j.toNat*sz+off,none⟩:=by
   unfold At;rw [Mo];unfold Addr.add
   split
   ·rename_i h;simp [h]
   ·simp
  rw [hadd] at hs;have hsz':=B3 _ _ hsz w;have hst:=run_storeCells_at P g (j.toNat*sz+off) e v.cells.toList 0 cur w hg (by omega) (fun u hu=>List.all_eq_true.1 hone u hu);simp only [Nat.add_zero] at hst;have hsp:=Rn (f:=f) hf (x':=x) (us:=v.cells.toList) (j:=off) hfit' l j.toNat u hgu hx;have hlen3:l.length=(l.set j.toNat x).length:=by simp
  refine Ri hF hdst hs (w':=w.setRow g (cur.toList.take (j.toNat*sz+off)++v.cells.toList++cur.toList.drop (j.toNat*sz+off+v.cells.toList.length)).toArray) ?_ hM ?_
  ·simp [storeVar,hsz',hst]
  ·intro a' hF';refine next _ a' hF' hlen3 (hS.upd hi rfl rfl rfl (by simp [World.setRow]) (fun q _ hq=>setRow_other w g q _ (fun e=>hq (by simp [Go.Eng.arr,Value.ownBlock,e]))) ⟨hlen3.symm,?_,.inr ⟨g,cap,_,rfl,hbase,setRow_heap w g cur _ e _ hg,hnc,hcm,?_,?_⟩⟩ (fun q hq=>.inl hq))
   ·rw [←hsp];have h1:=hold.2.1;simp only [List.length_append,List.length_take,List.length_drop] at h1 ⊢;omega
   ·have:cur.toList.length=cur.size:=by simp
    simp only [List.size_toArray,List.length_append,List.length_take,List.length_drop];omega
   ·rw [←hsp,←htake];have:cur.toList.length=cur.size:=by simp
    exact Mf (by omega) (by omega)
end
end Go.Eng
namespace Go.Eng
open Go Go.RowKit
def lastW (ops:Array Oper):List Nat→Nat→Option Nat
 | [],_=>none
 | j::l,t=>match lastW ops l t with|some q=>some q|none=>bif (match dstAt ops j with|some d=>Nat.beq d t|none=>false) then some j else none
def A3t (P:Program) (r:Option Nat) (ops:Array Oper) (D:World→Prop) (i:Nat) (a:Act) (v:Value):Prop :=
 ∃o,ops[i]? = some o∧∀a' w',(∀t∈o.looksAt ops,a'.tmps.getD t undef=a.tmps.getD t undef)→D w'→OpG P r ops o a' w' (fun v' w''=>v'=v∧w''=w')
def WRun (P:Program) (r:Option Nat) (ops:Array Oper) (D:World→Prop) (eff:List Nat) (K:Act→World→Prop):List Nat→Act→World→Prop
 | [],a,w=>K a w
 | i::l,a,w=>bif eff.contains i then SK P r ops i (fun a' w'=>D w'∧WRun P r ops D eff K l a' w') a w else ∃v,A3t P r ops D i a v∧WRun P r ops D eff K l (a.put (dstAt ops i) v) w
def Qb (ops:Array Oper):List Nat→List Nat→Bool
 | _,[]=>true
 | pre,i::l=>(match ops[i]? with|some o=>(o.looksAt ops).all fun t=>lastW ops pre t==Ee ops i t|none=>false)&&Qb ops (pre++[i]) l
def Kn:List Nat→Bool
 | []=>true
 | i::l=>!l.contains i&&Kn l
section
variable {P:Program} {r:Option Nat} {ops:Array Oper} {Q:Exit→Act→World→Prop} {K:Act→World→Prop} {D:World→Prop} {N m:Nat} {eff:List Nat}
theorem Fl:∀{l:List Nat},Kn l=true→l.Nodup:=by
 intro l
 induction l with
 | nil=>intro _;exact List.nodup_nil
 | cons i l ih =>
  intro h;rw [Kn,Bool.and_eq_true] at h;exact List.nodup_cons.2 ⟨by simpa using h.1,ih h.2⟩
theorem Lj:∀{l:List Nat} {t j:Nat},lastW ops l t=some j→j∈l∧dstAt ops j=some t:=by
 intro l
 induction l with
 | nil=>intro t j h;simp [lastW] at h
 | cons i l ih =>
  intro t j h;rw [lastW] at h
  cases hl:lastW ops l t with
  | some q=>rw [hl] at h;cases h;exact ⟨List.mem_cons_of_mem _ (ih hl).1,(ih hl).2⟩
  | none =>
   rw [hl] at h;simp only at h
   cases hd:dstAt ops i with
   | none=>rw [hd] at h;simp at h
   | some d =>
    rw [hd] at h;simp only at h
    cases hb:Nat.beq d t with
    | false=>rw [hb] at h;simp at h
    | true=>rw [hb] at h;simp at h;rw [Nat.beq_eq] at hb;subst hb;subst h;exact ⟨List.mem_cons_self ..,hd⟩
theorem X3 {l:List Nat} {i t:Nat}:lastW ops (l++[i]) t=if dstAt ops i=some t then some i else lastW ops l t:=by
 induction l with
 | nil =>
  simp only [List.nil_append,lastW]
  cases hd:dstAt ops i with
  | none=>simp
  | some d =>
   by_cases h:d=t
   ·subst h;simp
   ·have:Nat.beq d t=false:=by rw [←Bool.not_eq_true,Nat.beq_eq];exact h
    simp [this,h]
 | cons j l ih =>
  simp only [List.cons_append,lastW,ih]
  by_cases h:dstAt ops i=some t
  ·rw [if_pos h];simp [h]
  ·rw [if_neg h,if_neg h]
theorem getElem?_of_getD {x y:Array Value} {t:Nat} (hs:x.size=y.size) (h:x.getD t undef=y.getD t undef):x[t]? = y[t]?:=by
 rw [Array.getD_eq_getD_getElem?,Array.getD_eq_getD_getElem?] at h
 by_cases ht:t<x.size
 ·rw [Array.getElem?_eq_getElem ht,Array.getElem?_eq_getElem (by omega)] at h ⊢
  simpa using h
 ·rw [Array.getElem?_eq_none (by omega),Array.getElem?_eq_none (by omega)]
theorem R2 {o:Oper} {a a':Act} (hs:a'.tmps.size=a.tmps.size) (h:∀t∈o.looksAt ops,a'.tmps.getD t undef=a.tmps.getD t undef):Region.wanted o (yielded ops a'.tmps)=Region.wanted o (yielded ops a.tmps):=by
 unfold Region.wanted
 cases hg:o.guard with
 | none=>rfl
 | some jw =>
  obtain ⟨j,want⟩:=jw;simp only;have:yielded ops a'.tmps j=yielded ops a.tmps j:=by
   unfold yielded
   cases hd:(ops[j]?).bind (·.dst) with
   | none=>simp
   | some g =>
    have hmem:g∈o.looksAt ops:=by
     unfold Oper.looksAt;rw [hg];refine List.mem_append_right _ ?_;simp [hd]
    have:=getElem?_of_getD hs (h g hmem);simp [this]
  rw [this]
theorem Rt {o:Oper} {a a':Act} (hp:plainOp o.op=true) (h:∀t∈o.looksAt ops,a'.tmps.getD t undef=a.tmps.getD t undef):o.semAt r a'.eval=o.semAt r a.eval:=by
 rw [Jp hp,Jp hp];refine execOp_congr o (fun cs b hh=>by rw [hh] at hp;simp [plainOp] at hp) ?_;intro x hx
 cases x with
 | tmp t=>exact h t (List.mem_append_left _ (List.mem_filterMap.2 ⟨.tmp t,by simpa using hx,rfl⟩))
 | const v=>rfl
 | global g=>rfl
 | func f=>rfl
theorem Yj {o:Oper} {a a':Act} {w:World} {R:Value→World→Prop} (hp:plainOp o.op=true) (hs:a'.tmps.size=a.tmps.size) (h:∀t∈o.looksAt ops,a'.tmps.getD t undef=a.tmps.getD t undef) (hG:OpG P r ops o a w R):OpG P r ops o a' w R:=by
 unfold OpG OpR at *;rw [R2 hs h,Rt hp h];exact hG
structure FIs (ops:Array Oper) (N:Nat) (a0:Act) (vals:Nat→Value) (l:List Nat) (b:Act):Prop where
 size:b.tmps.size=N
 dfs:b.defers=a0.defers
 slot:∀t,b.tmps.getD t undef=(match lastW ops l t with|some j=>vals j|none=>a0.tmps.getD t undef)
theorem FIs.put {a0 b:Act} {vals:Nat→Value} {l:List Nat} {i:Nat} {v:Value} (h:FIs ops N a0 vals l b) (hdst:An ops N=true) (hi:i<ops.size) (hn:i∉l):FIs ops N a0 (H4 vals i v) (l++[i]) (b.put (dstAt ops i) v):=by
 refine ⟨by rw [Lx];exact h.size,by rw [Jd];exact h.dfs,fun t=>?_⟩;rw [X3]
 by_cases hd:dstAt ops i=some t
 ·rw [if_pos hd,hd];have:t<b.tmps.size:=by
   rw [h.size];exact Ja hdst (Array.getElem?_eq_getElem hi) (by simpa [dstAt,Array.getElem?_eq_getElem hi] using hd)
  rw [N0 this];simp [H4]
 ·rw [if_neg hd,J0 hd,h.slot t]
  cases hl:lastW ops l t with
  | none=>rfl
  | some j =>
   have:j≠i:=fun e=>hn (e▸(Lj hl).1);simp [H4,this]
end
def evalL (P:Program) (ops:Array Oper):List Nat→List (Nat×En)→List Value→Option (List (Nat×En)×List Ob)
 | [],E,vs=>match vs with|[]=>some (E,[])|_=>none
 | i::l,E,vs =>
  match ops[i]? with
  | none=>none
  | some o =>
   match R7 P ops E o vs with
   | none=>none
   | some (e,ob,vs') =>
    bif Pc E o.dst e then
     match evalL P ops l (Ur E o.dst e) vs' with
     | none=>none
     | some (E',obs)=>some (E',ob++obs)
    else none
structure EndsL (P:Program) (ops:Array Oper) (rs:List Nat) (M M':List (Nat×Value)) (obs:List Ob):Prop where
 eq:((evalL P ops rs (ofM M) (obs.map Ob.v)).map fun x=>(M'.map (fun p=>lookE x.1 p.1),x.2))=some (M'.map (fun p=>some ⟨[],p.2⟩),obs)
section
variable {P:Program} {r:Option Nat} {ops:Array Oper} {K:Act→World→Prop} {D:World→Prop} {N:Nat} {eff:List Nat} {ds:List Deferred} {M M':List (Nat×Value)} {a:Act} {w:World} {obs:List Ob}
theorem Td (hdst:An ops N=true) {rest:List Nat}:∀(rs:List Nat) (E E':List (Nat×En)) (vs:List Value) (obs:List Ob) (a:Act),evalL P ops rs E vs=some (E',obs)→Tz E→Obs P (fun a b=>b=a) D obs→rs.all (fun i=>!eff.contains i)=true →
  a.tmps.size=N→EnvOk (toA E) a w→(∀a',a'.tmps.size=N→a'.defers=a.defers→EnvOk (toA E') a' w→WRun P r ops D eff K rest a' w)→WRun P r ops D eff K (rs++rest) a w:=by
 intro rs
 induction rs with
 | nil =>
  intro E E' vs obs a h _ _ _ hN hE next
  cases vs with
  | nil=>simp [evalL] at h;rw [h.1] at hE;exact next a hN rfl hE
  | cons=>simp [evalL] at h
 | cons i rs ih =>
  intro E E' vs obs a h hc hob hne hN hE next
  simp only [evalL] at h
  cases ho:ops[i]? with
  | none=>rw [ho] at h;simp at h
  | some o =>
   rw [ho] at h;simp only at h
   cases hev:R7 P ops E o vs with
   | none=>rw [hev] at h;simp at h
   | some x =>
    obtain ⟨e,ob,vs'⟩:=x;rw [hev] at h;simp only at h
    cases hf:Pc E o.dst e with
    | false=>rw [hf] at h;simp at h
    | true =>
     rw [hf] at h;simp only [cond_true] at h
     cases hr:evalL P ops rs (Ur E o.dst e) vs' with
     | none=>rw [hr] at h;simp at h
     | some y =>
      obtain ⟨E1,obs1⟩:=y;rw [hr] at h;simp at h;obtain ⟨rfl,rfl⟩:=h;rw [Obs.append] at hob;obtain ⟨h1,h2⟩:=Rm (r:=r) N5 hc hev hob.1;rw [List.all_cons,Bool.and_eq_true] at hne;have hni:eff.contains i=false:=by simpa using hne.1
      have hd:dstAt ops i=o.dst:=by simp [dstAt,ho]
      rw [List.cons_append,WRun,hni];simp only [cond_false];refine ⟨e.val,⟨o,ho,fun a' w' hs hw'=>?_⟩,?_⟩
      ·refine (h2 a' w' hw' (fun t ht ψ hl=>?_)).mono (fun v w'' hh=>⟨hh.2,hh.1⟩);rw [hs t ht];have:=hE t ψ hl;rw [Hv] at hl
       cases hle:lookE E t with
       | none=>rw [hle] at hl;simp at hl
       | some e'=>rw [hle] at hl;simp at hl;subst hl;exact this
      ·rw [hd];refine ih _ _ _ _ _ hr (Y1 hc h1 hf) hob.2 hne.2 (by rw [Lx];exact hN) ?_ (fun a' hN' hd' hE'=>next a' hN' (hd'.trans (Jd _ _ _)) hE');rw [Yh];exact hE.push (T:=fun a b=>b=a) (Lz _ _) rfl (fun t ht=>hN▸Ja hdst ho ht) rfl
theorem A6b {rest:List Nat} (rs:List Nat) (M':List (Nat×Value)) (hF:Fr N ds M a) (hdst:An ops N=true) (hne:rs.all (fun i=>!eff.contains i)=true) (hob:Obs P (fun a b=>b=a) D obs) (h:EndsL P ops rs M M' obs)
  (next:∀a',Fr N ds M' a'→WRun P r ops D eff K rest a' w):WRun P r ops D eff K (rs++rest) a w:=by
 have h:=h.eq
 cases hev:evalL P ops rs (ofM M) (obs.map Ob.v) with
 | none=>rw [hev] at h;simp at h
 | some x =>
  obtain ⟨E',obs'⟩:=x;rw [hev] at h;simp only [Option.map_some,Option.some.injEq,Prod.mk.injEq] at h;obtain ⟨h1,rfl⟩:=h;refine Td hdst rs _ _ _ _ a hev (Pb M) hob hne hF.size (Ji hF w) ?_;intro a' hN hd hE;refine next a' ⟨hN,hd.trans hF.defers,fun p hp=>?_⟩
  have hlk:lookE E' p.1=some ⟨[],p.2⟩:=List.map_inj_left.1 h1 p hp;have:=hE p.1 (fun v _=>v=(⟨[],p.2⟩:En).val) (by rw [Hv,hlk];rfl)
  simpa [En.val,B8] using this
theorem WRun.fin (h:K a w):WRun P r ops D eff K [] a w:=h
end
end Go.Eng
namespace Go.Eng
open Go Go.RowKit
def fK (k:IntKind) (x:Int):List Value:=[.int k x]
theorem Ga (k:IntKind) (x:Int):(fK k x).length=1:=rfl
def Yp (x:ByteArray):List Value:=[.string x]
theorem Qk (x:ByteArray):(Yp x).length=1:=rfl
section
variable {P:Program} {T:World→World→Prop} {D:World→Prop} {w:World} {cs:List Cd} {t:Nat} {α:Type} {sz n cap:Nat} {f:α→List Value} {ad:Option Addr} {l l2:List α} {lo hi:Int} {γ:Type} {c:List γ} {g:γ→List Value}
theorem R5 (h:Lm l lo hi=some l2):∃a b:Nat,lo=a∧hi=b∧a≤b∧b≤l.length∧l2=(l.drop a).take (b-a)∧l2.length=b-a:=by
 unfold Lm at h
 split at h
 ·rename_i hc
  cases h
  refine ⟨lo.toNat,hi.toNat,by omega,by omega,by omega,by omega,rfl,?_⟩;simp;omega
 ·cases h
theorem Arr.cutD (h:Arr w sz f ad n cap l) (hf:∀x,(f x).length=sz) (hx:Lm l lo hi=some l2):Arr w sz f (Cs ad cap lo.toNat sz) l2.length (cap-lo.toNat) l2:=by
 obtain ⟨a,b,rfl,rfl,h1,h2,rfl,h3⟩:=R5 hx;have hn:=h.len;have hle:=h.le;rw [h3,Int.toNat_natCast];exact h.cut hf h1 (by omega) (by omega) (Nat.le_refl _)
theorem A0x (ht:K5 P t sz=true) (_h:Arr w sz g ad l.length cap c) (hx:B8 cs=true→Lm l lo ((l.length:Nat):Int)=some l2) :
  Ob.ok P T D (.run cs (Instr.sliceAt t (.slice ad l.length cap) (some (.int .i64 lo)) none none) (.slice (Cs ad cap lo.toNat sz) l2.length (cap-lo.toNat))):=by
 intro hk;obtain ⟨a,b,rfl,hb,h1,h2,rfl,h3⟩:=R5 (hx hk);have hb':l.length=b:=by omega
 rw [h3,Int.toNat_natCast,←hb'];exact P2 (P:=P) (T:=T) (D:=D) (cs:=cs) ht (fun _=>by omega) hk
theorem A4m (ht:K5 P t sz=true) (h:Arr w sz g ad l.length cap c) (hx:B8 cs=true→Lm l 0 hi=some l2) :
  Ob.ok P T D (.run cs (Instr.sliceAt t (.slice ad l.length cap) none (some (.int .i64 hi)) none) (.slice (Cs ad cap (0:Int).toNat sz) l2.length (cap-(0:Int).toNat))):=by
 intro hk;obtain ⟨a,b,ha,rfl,h1,h2,rfl,h3⟩:=R5 (hx hk);have ha':a=0:=by omega
 subst ha';have hle:=h.le;rw [h3];have:=Qu (P:=P) (T:=T) (D:=D) (cs:=cs) (n:=l.length) (cap:=cap) (ad:=ad) (hi:=b) ht (fun _=>by omega) hk
 simpa using this
end
end Go.Eng
namespace Go.Eng
open Go Go.RowKit
abbrev Rel (α:Type):=Frz→List Value→α→Prop
def Rel.Mono {α:Type} (R:Rel α):Prop:=∀(μ ν:Frz) (cs:List Value) (x:α),μ.le ν→R μ cs x→R ν cs x
def fN (sz:Nat) (cs:List Value):List Value:=(cs++List.replicate sz undef).take sz
theorem C4 (sz:Nat) (cs:List Value):(fN sz cs).length=sz:=by simp [fN]
def Rel.One {α:Type} (sz:Nat) (R:Rel α):Prop:=∀(μ:Frz) (cs:List Value) (x:α),R μ cs x→(fN sz cs).all Value.oneCell'=true
def RpF {α:Type} (f:α→List Value):Rel α:=fun _ cs x=>cs=f x
theorem RpF.mono {α:Type} {f:α→List Value}:(RpF f).Mono:=fun _ _ _ _ _ h=>h
def ArrQ {α:Type} (μ:Frz) (sz:Nat) (R:Rel α) (ad:Option Addr) (cap:Nat) (css:List (List Value)) (l:List α):Prop:=ArrM μ sz (fN sz) ad cap css∧All2 (R μ) css l
def PtM {α:Type} (μ:Frz) (T:TypeId) (R:Rel α) (pa:Option Addr) (x:Option α):Prop :=
 (pa=none∧x=none)∨∃b cs d,pa=some ⟨b,0,none⟩∧x=some d∧BlkM μ b T cs.toArray∧R μ cs d
section
variable {α β:Type} {R:Rel α} {μ ν:Frz} {sz cap:Nat} {ad:Option Addr} {css css':List (List Value)} {l l':List α} {w:World}
theorem All2.len {R:α→β→Prop} {xs:List α} {ys:List β} (h:All2 R xs ys):xs.length=ys.length:=by
 induction h with
 | nil=>rfl
 | cons _ _ ih=>simp [ih]
theorem All2.imp {R S:α→β→Prop} {xs:List α} {ys:List β} (h:All2 R xs ys) (hi:∀x y,R x y→S x y):All2 S xs ys:=by
 induction h with
 | nil=>exact .nil
 | cons h _ ih=>exact .cons (hi _ _ h) ih
theorem All2.app {R:α→β→Prop} {xs xs':List α} {ys ys':List β} (h:All2 R xs ys) (h':All2 R xs' ys'):All2 R (xs++xs') (ys++ys'):=by
 induction h with
 | nil=>exact h'
 | cons h _ ih=>exact .cons h ih
theorem All2.take {R:α→β→Prop} {xs:List α} {ys:List β} (h:All2 R xs ys):∀k,All2 R (xs.take k) (ys.take k):=by
 induction h with
 | nil=>intro k;simp;exact .nil
 | cons h _ ih=>intro k;cases k with
  | zero=>exact .nil
  | succ k=>exact .cons h (ih k)
theorem All2.drop {R:α→β→Prop} {xs:List α} {ys:List β} (h:All2 R xs ys):∀k,All2 R (xs.drop k) (ys.drop k):=by
 induction h with
 | nil=>intro k;simp;exact .nil
 | cons h h2 ih=>intro k;cases k with
  | zero=>exact .cons h h2
  | succ k=>exact ih k
theorem All2.mono (hR:R.Mono) (hle:μ.le ν) (h:All2 (R μ) css l):All2 (R ν) css l:=h.imp fun _ _=>hR _ _ _ _ hle
theorem ArrQ.mono (h:ArrQ μ sz R ad cap css l) (hR:R.Mono) (hle:μ.le ν):ArrQ ν sz R ad cap css l:=⟨h.1.mono hle,h.2.mono hR hle⟩
theorem ArrQ.at (h:ArrQ μ sz R ad cap css l) (hw:FrzAt μ w):Arr w sz (fN sz) ad l.length cap css:=by
 have:=h.1 w hw
 rwa [h.2.len] at this
theorem ArrQ.nil:ArrQ μ sz R none 0 [] ([]:List α):=⟨ArrM.nil,.nil⟩
theorem PtM.mono {T:TypeId} {pa:Option Addr} {x:Option α} (h:PtM μ T R pa x) (hR:R.Mono) (hle:μ.le ν):PtM ν T R pa x:=by
 rcases h with h|⟨b,cs,d,h1,h2,h3,h4⟩
 ·exact .inl h
 ·exact .inr ⟨b,cs,d,h1,h2,h3.mono hle,hR _ _ _ _ hle h4⟩
theorem PtM.some {T:TypeId} {pa:Option Addr} {x:Option α} {d:α} (h:PtM μ T R pa x) (hx:x=.some d):∃b cs,pa=Option.some ⟨b,0,none⟩∧BlkM μ b T cs.toArray∧R μ cs d:=by
 rcases h with ⟨_,rfl⟩|⟨b,cs,d',h1,h2,h3,h4⟩
 ·cases hx
 ·rw [hx] at h2;cases h2;exact ⟨b,cs,h1,h3,h4⟩
theorem Blk.toM {b:Nat} {t:TypeId} {cs:Array Value} (h:Blk w b t cs):BlkM (Eh w) b t cs:=fun _w' hw=>hw b _ h
theorem BlkM.blk {b:Nat} {t:TypeId} {cs:Array Value} (h:BlkM μ b t cs) (hw:FrzAt μ w):Blk w b t cs:=h w hw
theorem ArrQ.of_arr {e:Nat} (h:∀w,FrzAt ν w→(arr e sz (fN sz) ad l.length cap css).holds w) (h2:All2 (R μ) css l) (hR:R.Mono) (hle:μ.le ν):ArrQ ν sz R ad cap css l:=by
 refine ⟨?_,h2.mono hR hle⟩;have hl:=h2.len;intro w hw;have:=h w hw;rw [←hl] at this;exact ⟨rfl,Sl.of_own this.2⟩
theorem ArrQ.one (h:All2 (R μ) css l) (hR:R.One sz):∀x∈css,(fN sz x).all Value.oneCell'=true:=by
 induction h with
 | nil=>intro x hx;simp at hx
 | cons h _ ih =>
   intro x hx;rcases List.mem_cons.1 hx with rfl|hx
   ·exact hR _ _ _ h
   ·exact ih x hx
theorem A03 {γ:Type} {xs:List γ} {ys ys2:List α} {lo hi:Int} {S:γ→α→Prop} (h:All2 S xs ys) (hx:Lm ys lo hi=Option.some ys2):∃xs2,Lm xs lo hi=Option.some xs2∧All2 S xs2 ys2:=by
 unfold Lm at hx ⊢
 split at hx
 ·rename_i hc
  cases hx
  rw [h.len,if_pos hc];exact ⟨_,rfl,(h.drop _).take _⟩
 ·cases hx
end
section
variable {P:Program} {T:World→World→Prop} {D:World→Prop} {w:World} {cs:List Cd} {t:Nat} {α:Type} {sz n cap:Nat} {f:α→List Value} {ad:Option Addr} {l:List α}
theorem Jc {i:Int} {u:α} (h:Arr w sz f ad n cap l) (ht:K5 P t sz=true) (hx:B8 cs=true→Bo l i=some u) :
  Ob.ok P T D (.run cs (Instr.indexAt t (.slice ad n cap) (.int .i64 i)) (.pointer (some (At ad i sz)))) :=
 A62 h ht fun hk=>by have:=Kh (hx hk);have:=h.len;exact ⟨by omega,by omega⟩
theorem L9 {i:Int} {u:α} {v:Value} (j:Nat) (hf:∀x,(f x).length=sz) (h:∀w',D w'→Arr w' sz f ad n cap l) (ht:Q6 P t=true) (hx:B8 cs=true→Bo l i=some u) (hj:(f u)[j]? = some v) :
  Ob.ok P T D (.run cs (Instr.loadAt t (.pointer (some ((At ad i sz).add j)))) v):=by
 intro hk w' e;obtain ⟨h0,hi,hg⟩:=Kh (hx hk);have hl:=(h w' e).len;obtain ⟨_,_,hc⟩:=(h w' e).cells hf h0 (by omega) u;rw [Y9 hg] at hc;exact Rb ht (hc j _ hj)
theorem Mm {m:Nat} {i:Int} {u:α} {us:List Value} (j:Nat) (hf:∀x,(f x).length=sz) (h:∀w',D w'→Arr w' sz f ad n cap l) (ht:N7 P t=some m) (hx:B8 cs=true→Bo l i=some u) (hg:us.length=m∧((f u).drop j).take m=us) :
  Ob.ok P T D (.run cs (Instr.loadAt t (.pointer (some ((At ad i sz).add j)))) (.agg us.toArray)):=by
 intro hk w' e;obtain ⟨h0,hi,hgu⟩:=Kh (hx hk);have hl:=(h w' e).len;obtain ⟨_,_,hc⟩:=(h w' e).cells hf h0 (by omega) u;rw [Y9 hgu] at hc;refine Rc (by rw [hg.1];exact ht) (fun q u' hu=>?_);rw [Mo];refine hc (j+q) u' ?_;rw [←hg.2,List.getElem?_take] at hu
 split at hu
 ·rwa [List.getElem?_drop] at hu
 ·cases hu
end
section
variable {P:Program} {r:Option Nat} {ops:Array Oper} {K:Act→World→Prop} {N:Nat} {ds:List Deferred} {M:List (Nat×Value)} {a:Act} {w w0:World} {H:List Res} {k:Nat} {α β:Type} {e sz cap:Nat} {f:α→List Value} {ad:Option Addr} {c c':List α} {l l' l3:List β}
theorem Zm (M':Option Addr→Nat→List (Nat×Value)) (i:Nat) {t ty bytes scap:Nat} {sad:Option Addr} (hF:Fr N ds M a) (hS:St w0 H w) (hi:H[i]? = some (arr e sz f ad l.length cap c)) (hdst:An ops N=true)
  (hs:EffAt ops k M (Builtin.append_ #[t,t] ty #[.slice ad l.length cap,.slice sad l'.length scap])) (hty:Gz P t e sz bytes=true) (hsrc:Arr w sz f sad l'.length scap c') (h1:∀x∈c',(f x).all Value.oneCell'=true) (hap:apd bytes l l'=some l3)
  (hM:∀ad2 cap2,NextM ops k M (.slice ad2 l3.length cap2) (M' ad2 cap2))
  (next:∀ad2 cap2 w' a',Fr N ds (M' ad2 cap2) a'→St w0 (H.set i (arr e sz f ad2 l3.length cap2 (c++c'))) w'→K a' w'):SK P r ops k K a w:=by
 obtain ⟨rfl,hb,h63⟩:=Mq hap;have hold:=hS.holds _ (List.mem_of_getElem? hi);have hcl:c.length=l.length:=hold.1;have hcl':c'.length=l'.length:=hsrc.len;have hlen:(l++l').length=l.length+l'.length:=List.length_append;have hlen':(c++c').length=l.length+l'.length:=by rw [List.length_append,hcl,hcl']
 rw [←hcl] at hi hs hb h63;rw [←hcl'] at hsrc hs hb h63;refine A3w (l:=c) (l':=c') (l3:=c++c') M' i hF hS hi hdst hs hty hsrc h1 ?_ ?_ ?_
 ·unfold apd;rw [if_pos ⟨hb,h63⟩]
 ·intro ad2 cap2;have:=hM ad2 cap2;rwa [hlen,←hlen'] at this
 ·intro ad2 cap2 w' a' hF' hS';rw [hlen',←hlen] at hS';exact next ad2 cap2 w' a' hF' hS'
theorem Vu (M':Nat→List (Nat×Value)) {t len:Nat} (parts:Array (Nat×Value)) (cs:Array Value) (c:List α) (l:List β) (hF:Fr N ds M a) (hS:St w0 H w) (hdst:An ops N=true) (hs:EffAt ops k M (Instr.buildSlice t len parts))
  (hb:J8 P t len parts=some (e,cs)) (hf:∀x,(f x).length=sz) (hl:c.length=len) (hll:l.length=len) (hc:c.flatMap f=cs.toList) (hn:Nat.ble len 16777216=true) (hM:∀b,NextM ops k M (.slice (some ⟨b,0,none⟩) len len) (M' b))
  (next:∀b w' a',Fr N ds (M' b) a'→St w0 (arr e sz f (some ⟨b,0,none⟩) l.length len c::H) w'→K a' w'):SK P r ops k K a w:=by
 refine Z0 M' parts cs c hF hS hdst hs hb hf hl hc hn hM ?_;intro b w' a' h1 h2;rw [hl] at h2;exact next b w' a' h1 (by rw [hll];exact h2)
end
end Go.Eng
namespace Go.Eng
open Go Go.RowKit
def K7 (ops:Array Oper) (e i:Nat):Bool:=((Ss ops.toList []).getD i 0).testBit e
def Am (ops:Array Oper) (m:Nat) (eff done:List Nat):List Nat :=
 (List.range m).filter fun i=>!eff.contains i&&(eff.all fun e=>!K7 ops e i||done.contains e)&&(match done.getLast? with|some e=>K7 ops e i|none=>true)
def K4 (ops:Array Oper) (eff done:List Nat):List Nat:=eff.filter fun e=>!done.contains e&&eff.all fun d=>!K7 ops d e||done.contains d
def WT (P:Program) (r:Option Nat) (ops:Array Oper) (D:World→Prop) (m:Nat) (eff:List Nat) (K:Act→World→Prop):Nat→List Nat→Act→World→Prop
 | 0,done,a,w=>WRun P r ops D [] K (Am ops m eff done) a w
 | n+1,done,a,w=>WRun P r ops D [] (fun a w=>∀e∈K4 ops eff done,SK P r ops e (fun a' w'=>D w'∧WT P r ops D m eff K n (done++[e]) a' w') a w) (Am ops m eff done) a w
def SKB (P:Program) (r:Option Nat) (ops:Array Oper) (k:Nat) (B:List PanicEntry→World→Prop) (K:Act→World→Prop) (a:Act) (w:World):Prop :=
 ∃o,ops[k]? = some o∧OpGB P r ops o a w (fun v w'=>K (a.put o.dst v) w') B
def WTB (P:Program) (r:Option Nat) (ops:Array Oper) (D:World→Prop) (m:Nat) (eff:List Nat) (B:List PanicEntry→World→Prop) (K:Act→World→Prop):Nat→List Nat→Act→World→Prop
 | 0,done,a,w=>WRun P r ops D [] K (Am ops m eff done) a w
 | n+1,done,a,w=>WRun P r ops D [] (fun a w=>∀e∈K4 ops eff done,SKB P r ops e B (fun a' w'=>D w'∧WTB P r ops D m eff B K n (done++[e]) a' w') a w) (Am ops m eff done) a w
def Lg (ops:Array Oper) (pre:List Nat) (i:Nat):Bool:=match ops[i]? with|some o=>(o.looksAt ops).all fun t=>lastW ops pre t==Ee ops i t|none=>false
def Fv (ops:Array Oper) (m:Nat) (eff:List Nat):Nat→List Nat→List Nat→Bool
 | 0,done,pre=>Qb ops pre (Am ops m eff done)&&Kn (pre++Am ops m eff done)&&(List.range m).all (fun i=>(pre++Am ops m eff done).contains i) &&
   ((List.range m).all fun j=>match dstAt ops j with|some t=>lastW ops (pre++Am ops m eff done) t==Ee ops m t|none=>true)
 | n+1,done,pre=>Qb ops pre (Am ops m eff done)&&Kn (pre++Am ops m eff done) &&
   (K4 ops eff done).all fun e=>Lg ops (pre++Am ops m eff done) e&&!(pre++Am ops m eff done).contains e&&Fv ops m eff n (done++[e]) (pre++Am ops m eff done++[e])
section
variable {P:Program} {r:Option Nat} {ops:Array Oper} {Q:Exit→Act→World→Prop} {K:Act→World→Prop} {D:World→Prop} {N:Nat} {eff:List Nat} {B:List PanicEntry→World→Prop}
theorem SK.toB {k:Nat} {a:Act} {w:World} (h:SK P r ops k K a w):SKB P r ops k B K a w:=by
 obtain ⟨o,ho,h⟩:=h;exact ⟨o,ho,.inl h⟩
theorem Pw {o:Oper} {a a':Act} {w:World} {R:Value→World→Prop} (hp:plainOp o.op=true) (hs:a'.tmps.size=a.tmps.size) (h:∀t∈o.looksAt ops,a'.tmps.getD t undef=a.tmps.getD t undef) (hG:OpGB P r ops o a w R B):OpGB P r ops o a' w R B:=by
 rcases hG with hG|⟨hw,f,args,w',h1,hc⟩
 ·exact .inl (Yj hp hs h hG)
 ·refine .inr ⟨?_,f,args,w',?_,hc⟩
  ·rw [←hw];exact R2 hs h
  ·rw [←h1,Rt hp h]
theorem Pk:∀(l k:List Nat),l.Nodup→(∀x∈l,x∈k)→l.length≤k.length:=by
 intro l
 induction l with
 | nil=>intro k _ _;simp
 | cons x l ih =>
  intro k hn hs;have hx:=hs x (List.mem_cons_self ..);have hn':=List.nodup_cons.1 hn;have:=ih (k.erase x) hn'.2 (fun y hy=>by
   have hne:y≠x:=fun e=>hn'.1 (e▸hy);exact (List.mem_erase_of_ne hne).2 (hs y (List.mem_cons_of_mem _ hy)))
  rw [List.length_erase_of_mem hx] at this;have hpos:0<k.length:=List.length_pos_of_mem hx;simp;omega
theorem Re {l k:List Nat} (hn:l.Nodup) (hs:∀x∈l,x∈k) (hl:k.length≤l.length):∀x∈k,x∈l:=by
 intro x hx
 by_cases h:x∈l
 ·exact h
 ·have:=Pk (x::l) k (List.nodup_cons.2 ⟨h,hn⟩) (fun y hy=>by
   rcases List.mem_cons.1 hy with rfl|hy
   ·exact hx
   ·exact hs y hy)
  simp at this;omega
theorem Lh {e i:Nat} (h:K7 ops e i=true):Anc ops e i:=P6 h
theorem Wm {pre:List Nat} {i:Nat} {l:List Nat} (h:Qb ops pre (i::l)=true):Lg ops pre i=true∧Qb ops (pre++[i]) l=true:=by
 rw [Qb,Bool.and_eq_true] at h;exact h
theorem Jz {pre:List Nat} {i:Nat} {o:Oper} (h:Lg ops pre i=true) (ho:ops[i]? = some o):∀t∈o.looksAt ops,lastW ops pre t=Ee ops i t:=by
 unfold Lg at h;rw [ho] at h;intro t ht
 simpa using List.all_eq_true.1 h t ht
theorem Q5 {l:List Nat} {i:Nat} {k:List Nat} (h:(l++i::k).Nodup):i∉l:=by
 intro hi;have:=(List.nodup_append.1 h).2.2 i hi i (List.mem_cons_self ..);exact this rfl
def ReadV (P:Program) (r:Option Nat) (ops:Array Oper) (D:World→Prop) (a:Act) (vals:Nat→Value) (i:Nat):Prop :=
 ∃o,ops[i]? = some o∧∀a' w',(∀t∈o.looksAt ops,a'.tmps.getD t undef=Ed ops a vals i t)→D w'→OpG P r ops o a' w' (fun v' w''=>v'=vals i∧w''=w')
def Told (ops:Array Oper) (l:List Nat):Prop:=∀pre i post,l=pre++i::post→Lg ops pre i=true
theorem Told.snoc {l:List Nat} {i:Nat} (h:Told ops l) (hi:Lg ops l i=true):Told ops (l++[i]):=by
 intro pre j post e;rcases List.eq_nil_or_concat post with rfl|⟨q,x,rfl⟩
 ·have:=List.append_inj' e (by simp);obtain ⟨e1,e2⟩:=this
  cases e2
  rw [←e1];exact hi
 ·rw [List.concat_eq_append,←List.cons_append,←List.append_assoc] at e;obtain ⟨e1,_⟩:=List.append_inj' e (by simp);exact h pre j q e1
theorem Nk {a:Act} {l:List Nat} (ht:Told ops l) {vals vals':Nat→Value} (hv:∀i∈l,vals' i=vals i) {i:Nat} (hi:i∈l) (h:ReadV P r ops D a vals i):ReadV P r ops D a vals' i:=by
 obtain ⟨o,ho,h⟩:=h;obtain ⟨pre,post,e⟩:=List.append_of_mem hi;refine ⟨o,ho,fun a' w' hs hw=>?_⟩;rw [hv i hi];refine h a' w' (fun t htt=>?_) hw;rw [hs t htt];unfold Ed;have hl:=Jz (ht pre i post e) ho t htt
 cases hs:Ee ops i t with
 | none=>rfl
 | some j =>
  rw [hs] at hl;exact hv j (by rw [e];exact List.mem_append_left _ (Lj hl).1)
theorem P8 {l0:List Nat} {a:Act} {K:Act→World→Prop} {w:World} (hdst:An ops N=true) (hsz:∀i∈l0,i<ops.size):∀(rs:List Nat) (pre:List Nat) (vals:Nat→Value) (b:Act),(∀i∈rs,i∈l0)→Qb ops pre rs=true→(pre++rs).Nodup→Told ops pre →
  FIs ops N a vals pre b→(∀i∈pre,i∉eff→ReadV P r ops D a vals i)→(∀i∈rs,i∉eff)→WRun P r ops D [] K rs b w →
  ∃vals' b',(∀i∈pre,vals' i=vals i)∧FIs ops N a vals' (pre++rs) b'∧(∀i∈pre++rs,i∉eff→ReadV P r ops D a vals' i)∧Told ops (pre++rs)∧K b' w:=by
 intro rs
 induction rs with
 | nil=>intro pre vals b _ _ _ ht hb hr _ hw;exact ⟨vals,b,fun _ _=>rfl,by simpa using hb,by simpa using hr,by simpa using ht,hw⟩
 | cons i rs ih =>
  intro pre vals b hl0 hs hnd ht hb hr hne hw;obtain ⟨h1,h2⟩:=Wm hs;rw [WRun] at hw;simp only [List.contains_nil,cond_false] at hw;obtain ⟨v,hrd,hw⟩:=hw;have hni:=Q5 hnd;have hag:∀j∈pre,H4 vals i v j=vals j:=fun j hj=>by
   have:j≠i:=fun e=>hni (e▸hj);simp [H4,this]
  have hb':=hb.put (v:=v) hdst (hsz i (hl0 i (List.mem_cons_self ..))) hni;have ht':=ht.snoc h1;obtain ⟨vals',b',k1,k2,k3,k4,k5⟩:=ih (pre++[i]) (H4 vals i v) _ (fun j hj=>hl0 j (List.mem_cons_of_mem _ hj)) h2 (by simpa using hnd) ht' hb' (fun j hj hje=>by
   rcases List.mem_append.1 hj with hj|hj
   ·exact Nk ht hag hj (hr j hj hje)
   ·simp at hj;subst hj;obtain ⟨o,ho,hro⟩:=hrd;refine ⟨o,ho,fun a' w' hs hw'=>?_⟩;have:H4 vals j v j=v:=by simp [H4]
    rw [this];refine hro a' w' (fun t htt=>?_) hw';rw [hs t htt,hb.slot t];unfold Ed;have hl:=Jz h1 ho t htt;rw [hl]
    cases hs:Ee ops j t with
    | none=>rfl
    | some q =>
     rw [hs] at hl;exact hag q (Lj hl).1) (fun j hj=>hne j (List.mem_cons_of_mem _ hj)) hw
  refine ⟨vals',b',fun j hj=>?_,by simpa using k2,by simpa using k3,by simpa using k4,k5⟩;rw [k1 j (List.mem_append_left _ hj),hag j hj]
theorem Ut {id:Nat} (m:Nat) (eff:List Nat) {a:Act} {w:World} (hmo:P.follows .mixedOrders=true) (hck:(An ops N&&Jm ops m&&Fa ops m&&Dn ops&&Nat.ble m ops.size&&Fv ops m eff eff.length [] []&&eff.all (fun e=>Nat.blt e m&&(match ops[e]? with|some o=>plainOp o.op|none=>false))&&Kn eff)=true) (hN:a.tmps.size=N)
  (hB:∀ch a' w,a'.defers=a.defers→B ch w→Q (.panic ch) a' w) (hD:D { w with drawn:=w.drawn+1 }) (h:WTB P r ops D m eff B (fun a w=>WI P r ops Q m a w) eff.length [] a { w with drawn:=w.drawn+1 }):WP P r (.region id ops true) Q a w:=by
 simp only [Bool.and_eq_true] at hck;obtain ⟨⟨⟨⟨⟨⟨⟨h1,h2⟩,h3⟩,h4⟩,h5⟩,h6⟩,h7⟩,h8⟩:=hck;have hmn:=Nat.le_of_ble_eq_true h5;have heff:∀e∈eff,e<m∧∀o,ops[e]? = some o→plainOp o.op=true:=fun e he=>by
  have:=List.all_eq_true.1 h7 e he;rw [Bool.and_eq_true] at this;exact ⟨Nat.blt_eq.mp this.1,fun o ho=>by have:=this.2;rw [ho] at this;exact this⟩
 have hnde:=Fl h8;have newR:∀done i,i∈Am ops m eff done→i<m∧i∉eff:=by
  intro done i hi;unfold Am at hi;have:=List.mem_filter.1 hi;simp only [Bool.and_eq_true] at this;exact ⟨List.mem_range.1 this.1,by simpa using this.2.1.1⟩
 let St:Nat→List Nat→List Nat→(Nat→Value)→Act→World→Prop:=fun n done pre vals b w =>
  FIs ops N a vals pre b∧(∀i∈pre,i∉eff→ReadV P r ops D a vals i)∧Told ops pre∧pre.Nodup∧(∀i∈pre,i<m)∧(∀e∈eff,e∈pre↔e∈done)∧(∀e∈done,e∈eff)∧done.Nodup∧done.length+n=eff.length ∧
  (∀i,i<m→i∉eff→(∀e∈eff,K7 ops e i=true→e∈done)→i∈pre) ∧
  (match n with
   | 0=>WI P r ops Q m b w∧∀t,lastW ops pre t=Ee ops m t
   | n+1=>(∀e∈K4 ops eff done,SKB P r ops e B (fun a' w'=>D w'∧WTB P r ops D m eff B (fun a w=>WI P r ops Q m a w) n (done++[e]) a' w') b w)∧∀e∈K4 ops eff done,Lg ops pre e=true∧e∉pre∧Fv ops m eff n (done++[e]) (pre++[e])=true)
 have enter:∀n done pre vals b w,FIs ops N a vals pre b→(∀i∈pre,i∉eff→ReadV P r ops D a vals i)→Told ops pre→(∀i∈pre,i<m)→(∀e∈eff,e∈pre↔e∈done)→(∀e∈done,e∈eff)→done.Nodup→done.length+n=eff.length →
   (∀i,i<m→i∉eff→(∀e∈eff,K7 ops e i=true→e∈done)→i∈pre++Am ops m eff done)→Fv ops m eff n done pre=true→WTB P r ops D m eff B (fun a w=>WI P r ops Q m a w) n done b w →
   ∃vals' b',(∀i∈pre,vals' i=vals i)∧St n done (pre++Am ops m eff done) vals' b' w:=by
  intro n done pre vals b w hb hr ht hlt hed hde hdn hdl hall hok hw;have hne:∀i∈Am ops m eff done,i∉eff:=fun i hi=>(newR done i hi).2;have hl0:∀i∈Am ops m eff done,i<ops.size:=fun i hi=>by have:=(newR done i hi).1;omega
  have hlt':∀i∈pre++Am ops m eff done,i<m:=fun i hi=>by
   rcases List.mem_append.1 hi with hi|hi
   ·exact hlt i hi
   ·exact (newR done i hi).1
  have hed':∀e∈eff,e∈pre++Am ops m eff done↔e∈done:=fun e he=>by
   rw [List.mem_append,hed e he];exact ⟨fun h=>h.elim (fun h=>h) (fun h=>absurd he (hne e h)),.inl⟩
  cases n with
  | zero =>
   simp only [Fv,Bool.and_eq_true] at hok;obtain ⟨⟨⟨o1,o2⟩,o3⟩,o4⟩:=hok;have hnd:=Fl o2;rw [WTB] at hw;obtain ⟨vals',b',k1,k2,k3,k4,k5⟩:=P8 (l0:=Am ops m eff done) (eff:=eff) h1 hl0 _ pre vals b (fun _ h=>h) o1 hnd ht hb hr hne hw;refine ⟨vals',b',k1,k2,k3,k4,hnd,hlt',hed',hde,hdn,hdl,hall,k5,fun t=>?_⟩
   cases hs:Ee ops m t with
   | some j =>
    obtain ⟨hjm,hdj,_⟩:=E9 hs;have:=List.all_eq_true.1 o4 j (List.mem_range.2 hjm);rw [hdj] at this;rw [←hs]
    simpa using this
   | none =>
    cases hl:lastW ops (pre++Am ops m eff done) t with
    | none=>rfl
    | some j =>
     obtain ⟨hjl,hdj⟩:=Lj hl;exact absurd hdj (Jg hs j (hlt' j hjl))
  | succ n =>
   simp only [Fv,Bool.and_eq_true] at hok;obtain ⟨⟨o1,o2⟩,o3⟩:=hok;have hnd:=Fl o2;rw [WTB] at hw;obtain ⟨vals',b',k1,k2,k3,k4,k5⟩:=P8 (l0:=Am ops m eff done) (eff:=eff) h1 hl0 _ pre vals b (fun _ h=>h) o1 hnd ht hb hr hne hw;refine ⟨vals',b',k1,k2,k3,k4,hnd,hlt',hed',hde,hdn,hdl,hall,k5,fun e he=>?_⟩;have:=List.all_eq_true.1 o3 e he;simp only [Bool.and_eq_true] at this;exact ⟨this.1.1,by simpa using this.1.2,this.2⟩
 let G:(Nat→Bool)→(Nat→Value)→World→Prop:=fun S σ w=>∃n done pre vals b,St n done pre vals b w∧D w∧(∀i,S i=true→i∈pre)∧(∀e∈done,S e=true)∧(∀i,S i=true→σ i=vals i)
 refine Qw (B:=B) (N:=N) (m:=m) (G:=G) hmo h1 h2 h3 h4 hmn hB ?_ hN ?_ (fun _=>undef) ?_ ?_
 ·intro S σ a1 w1 i o him ho hSi hanc hcl hlow hsz hdf hG hlook;obtain ⟨n,done,pre,vals,b,⟨s1,s2,s3,s4,s5,s6,s7,s8,s9,s10,s11⟩,g1,g2,g3,g4⟩:=hG;have hsrc:∀t∈o.looksAt ops,∀j,Ee ops i t=some j→S j=true:=by
   intro t ht j hj;obtain ⟨hji,hdj,_⟩:=E9 hj;obtain ⟨xo,hxo,hxd⟩:=Gp hdj;rcases Ko h2 hji him hxo ho with hap|hA
   ·exact absurd ht ((Oper.apart_spec hap).1 t hxd)
   ·exact hanc j hA
  have hslot:∀t∈o.looksAt ops,a1.tmps.getD t undef=Ed ops a vals i t:=by
   intro t ht;rw [hlook t ht];unfold Ed
   cases hl:Ee ops i t with
   | none=>rfl
   | some j=>exact g4 j (hsrc t ht j hl)
  by_cases hie:i∈eff
  ·
   have hdone:∀e∈eff,K7 ops e i=true→e∈done:=fun e he hA=>(s6 e he).1 (g2 e (hanc e (Lh hA)));have hid:i∉done:=fun hd=>by have:=g3 i hd;rw [hSi] at this;cases this
   have hnx:i∈K4 ops eff done:=by
    unfold K4;refine List.mem_filter.2 ⟨hie,?_⟩;rw [Bool.and_eq_true];refine ⟨by simpa using hid,List.all_eq_true.2 fun d hd=>?_⟩
    cases hA:K7 ops d i with
    | false=>simp
    | true=>simpa using hdone d hd hA
   cases n with
   | zero =>
    exfalso;have hp:done.length=eff.length:=by omega
    have hsub:∀x∈done,x∈eff:=s7;have:i∈done:=by
     exact Re s8 hsub (by omega) i hie
    exact hid this
   | succ n =>
    obtain ⟨hstep,hlk⟩:=s11;obtain ⟨l1,l2,l3⟩:=hlk i hnx;obtain ⟨o',ho',hop⟩:=hstep i hnx;rw [ho] at ho'
    cases ho'
    have hop':=Pw (a':=a1) ((heff i hie).2 o ho) (by rw [hsz,s1.size]) (fun t ht=>by
     rw [hslot t ht,s1.slot t,Jz l1 ho t ht];rfl) hop
    refine hop'.mono ?_;rintro v w' ⟨hDw,hw⟩;have hag:∀j∈pre,H4 vals i v j=vals j:=fun j hj=>by
     have:j≠i:=fun e=>l2 (e▸hj);simp [H4,this]
    have hb':=s1.put (v:=v) h1 (by omega) l2;have hdo:o.dst=dstAt ops i:=by simp [dstAt,ho]
    rw [hdo] at hw;obtain ⟨vals',b',k1,k2⟩:=enter n (done++[i]) (pre++[i]) (H4 vals i v) _ w' hb' (fun j hj hje=>by
      rcases List.mem_append.1 hj with hj|hj
      ·exact Nk s3 hag hj (s2 j hj hje)
      ·simp at hj;subst hj;exact absurd hie hje) (s3.snoc l1) (fun j hj=>by
      rcases List.mem_append.1 hj with hj|hj
      ·exact s5 j hj
      ·simp at hj;subst hj;exact him) (fun e he=>by rw [List.mem_append,List.mem_append,s6 e he]) (fun e he=>by
      rcases List.mem_append.1 he with he|he
      ·exact s7 e he
      ·simp at he;subst he;exact hie) (List.nodup_append.2 ⟨s8,by simp,fun x hx y hy=>by simp at hy;subst hy;exact fun e=>hid (e▸hx)⟩) (by simp;omega) (fun j hj hje hAj=>by
      by_cases hold:∀e∈eff,K7 ops e j=true→e∈done
      ·exact List.mem_append_left _ (List.mem_append_left _ (s10 j hj hje hold))
      ·refine List.mem_append_right _ ?_;unfold Am;refine List.mem_filter.2 ⟨List.mem_range.2 hj,?_⟩;have hij:K7 ops i j=true:=by
        simp only [Classical.not_forall] at hold;obtain ⟨e,he,hAe,hed⟩:=hold;rcases List.mem_append.1 (hAj e he hAe) with h'|h'
        ·exact absurd h' hed
        ·simp at h';subst h';exact hAe
       simp only [Bool.and_eq_true];refine ⟨⟨by simpa using hje,List.all_eq_true.2 fun e he=>?_⟩,by simpa using hij⟩
       cases hAe:K7 ops e j with
       | false=>simp
       | true=>simpa using hAj e he hAe) l3 hw
    refine ⟨n,done++[i],_,vals',b',k2,hDw,fun j hj=>?_,fun e he=>?_,fun j hj=>?_⟩
    ·rcases Bool.or_eq_true _ _▸hj with hj|hj
     ·exact List.mem_append_left _ (List.mem_append_left _ (g2 j hj))
     ·rw [Nat.beq_eq] at hj;subst hj;exact List.mem_append_left _ (by simp)
    ·rcases List.mem_append.1 he with he|he
     ·simp [g3 e he]
     ·simp at he;subst he;simp
    ·rcases Bool.or_eq_true _ _▸hj with hj|hj
     ·have hjl:=g2 j hj;have hji:j≠i:=fun e=>l2 (e▸hjl);rw [k1 j (List.mem_append_left _ hjl),hag j hjl];simp [H4,hji,g4 j hj]
     ·rw [Nat.beq_eq] at hj;subst hj;rw [k1 j (by simp)];simp [H4]
  ·have hip:i∈pre:=s10 i him hie (fun e he hA=>(s6 e he).1 (g2 e (hanc e (Lh hA))));obtain ⟨o',ho',hr⟩:=s2 i hip hie;rw [ho] at ho'
   cases ho'
   refine .inl ((hr a1 w1 hslot g1).mono ?_);rintro v w' ⟨rfl,rfl⟩;refine ⟨n,done,pre,vals,b,⟨s1,s2,s3,s4,s5,s6,s7,s8,s9,s10,s11⟩,g1,fun j hj=>?_,fun e he=>by simp [g3 e he],fun j hj=>?_⟩
   ·rcases Bool.or_eq_true _ _▸hj with hj|hj
    ·exact g2 j hj
    ·rw [Nat.beq_eq] at hj;subst hj;exact hip
   ·rcases Bool.or_eq_true _ _▸hj with hj|hj
    ·by_cases hji:j=i
     ·subst hji;simp [H4]
     ·simp [H4,hji,g4 j hj]
    ·rw [Nat.beq_eq] at hj;subst hj;simp [H4]
 ·intro S S' σ w1 hSS hG;have:S=S':=funext hSS;rw [←this];exact hG
 ·obtain ⟨vals',b',k1,k2⟩:=enter eff.length [] [] (fun _=>undef) a _ ⟨hN,rfl,fun t=>by simp [lastW]⟩ (fun i hi=>by simp at hi) (fun pre i post e=>by simp at e) (fun i hi=>by simp at hi) (fun e he=>by simp) (fun e he=>by simp at he) List.nodup_nil (by simp) (fun i hi hie hA=>by
    refine List.mem_append_right _ (List.mem_filter.2 ⟨List.mem_range.2 hi,?_⟩);simp only [Bool.and_eq_true];refine ⟨⟨by simpa using hie,List.all_eq_true.2 fun e he=>?_⟩,rfl⟩
    cases hAe:K7 ops e i with
    | false=>simp
    | true=>exact absurd (hA e he hAe) (by simp)) h6 h
  exact ⟨_,_,_,vals',b',k2,hD,fun i hi=>by simp at hi,fun e he=>by simp at he,fun i hi=>by simp at hi⟩
 ·intro a' w' σ hNa hdf hG hslots;obtain ⟨n,done,pre,vals,b,⟨s1,s2,s3,s4,s5,s6,s7,s8,s9,s10,s11⟩,g1,g2,g3,g4⟩:=hG;have hn:n=0:=by
   have hsub:∀e∈eff,e∈done:=fun e he=>(s6 e he).1 (g2 e (Nat.blt_eq.mpr (heff e he).1));have:=Pk eff done hnde hsub;omega
  subst hn;obtain ⟨hWI,hfin⟩:=s11;have hab:a'=b:=by
   have ht:a'.tmps=b.tmps:=by
    refine Array.ext (by rw [hNa,s1.size]) (fun t ht1 ht2=>?_);have e1:=hslots t;have e2:=s1.slot t;have hsl:Ed ops a σ m t=(match lastW ops pre t with|some j=>vals j|none=>a.tmps.getD t undef):=by
     rw [hfin t];unfold Ed
     cases hs:Ee ops m t with
     | none=>rfl
     | some j=>exact g4 j (Nat.blt_eq.mpr (E9 hs).1)
    replace e1:a'.tmps.getD t undef=b.tmps.getD t undef:=e1.trans (hsl.trans e2.symm);rw [Array.getD_eq_getD_getElem?,Array.getD_eq_getD_getElem?,Array.getElem?_eq_getElem ht1,Array.getElem?_eq_getElem ht2] at e1
    simpa using e1
   cases a';cases b
   simp only at ht;subst ht;have:=hdf.trans s1.dfs.symm;simp only at this;rw [this]
  rw [hab];exact hWI
theorem WRun.mono0 {K K':Act→World→Prop} (hK:∀a w,K a w→K' a w):∀{l:List Nat} {a:Act} {w:World},WRun P r ops D [] K l a w→WRun P r ops D [] K' l a w:=by
 intro l
 induction l with
 | nil=>intro a w h;exact hK a w h
 | cons i l ih =>
  intro a w h;rw [WRun] at h ⊢;simp only [List.contains_nil,cond_false] at h ⊢;obtain ⟨v,h1,h2⟩:=h;exact ⟨v,h1,ih h2⟩
theorem WT.toB {m:Nat}:∀{n:Nat} {done:List Nat} {a:Act} {w:World},WT P r ops D m eff K n done a w→WTB P r ops D m eff B K n done a w:=by
 intro n
 induction n with
 | zero=>intro done a w h;rw [WT] at h;rw [WTB];exact h
 | succ n ih =>
  intro done a w h;rw [WT] at h;rw [WTB];refine WRun.mono0 (fun a w h e he=>SK.toB ?_) h;obtain ⟨o,ho,h⟩:=h e he;exact ⟨o,ho,h.mono fun _ _ h=>⟨h.1,ih h.2⟩⟩
theorem Wf {id:Nat} (m:Nat) (eff:List Nat) {a:Act} {w:World} (hmo:P.follows .mixedOrders=true) (hck:(An ops N&&Jm ops m&&Fa ops m&&Dn ops&&Nat.ble m ops.size&&Fv ops m eff eff.length [] []&&eff.all (fun e=>Nat.blt e m&&(match ops[e]? with|some o=>plainOp o.op|none=>false))&&Kn eff)=true) (hN:a.tmps.size=N)
  (hD:D { w with drawn:=w.drawn+1 }) (h:WT P r ops D m eff (fun a w=>WI P r ops Q m a w) eff.length [] a { w with drawn:=w.drawn+1 }):WP P r (.region id ops true) Q a w:=by
 refine Ut (B:=fun _ _=>False) m eff hmo hck hN (fun _ _ _ _ h=>h.elim) hD (WT.toB h)
theorem WRun.mono {K K':Act→World→Prop} (hK:∀a w,K a w→K' a w) {l:List Nat} {a:Act} {w:World} (h:WRun P r ops D [] K l a w):WRun P r ops D [] K' l a w:=WRun.mono0 hK h
theorem SK.mono {k:Nat} {K K':Act→World→Prop} {a:Act} {w:World} (hK:∀a w,K a w→K' a w) (h:SK P r ops k K a w):SK P r ops k K' a w:=by
 obtain ⟨o,ho,h⟩:=h;exact ⟨o,ho,h.mono fun _ _=>hK _ _⟩
theorem WT.mono {m:Nat} {K K':Act→World→Prop} (hK:∀a w,K a w→K' a w):∀{n:Nat} {done:List Nat} {a:Act} {w:World},WT P r ops D m eff K n done a w→WT P r ops D m eff K' n done a w:=by
 intro n
 induction n with
 | zero=>intro done a w h;rw [WT] at h ⊢;exact WRun.mono hK h
 | succ n ih =>
  intro done a w h;rw [WT] at h ⊢;exact WRun.mono (fun a w h e he=>(h e he).mono fun a w h=>⟨h.1,ih h.2⟩) h
theorem Ux {id:Nat} (m:Nat) (eff:List Nat) (J:Act→World→Prop) {a:Act} {w:World} (hmo:P.follows .mixedOrders=true) (hck:(An ops N&&Jm ops m&&Fa ops m&&Dn ops&&Nat.ble m ops.size&&Fv ops m eff eff.length [] []&&eff.all (fun e=>Nat.blt e m&&(match ops[e]? with|some o=>plainOp o.op|none=>false))&&Kn eff)=true) (hN:a.tmps.size=N)
  (hD:D { w with drawn:=w.drawn+1 }) (h:WT P r ops D m eff J eff.length [] a { w with drawn:=w.drawn+1 }) (hJ:∀a w,J a w→WI P r ops Q m a w):WP P r (.region id ops true) Q a w :=
 Wf m eff hmo hck hN hD (WT.mono hJ h)
theorem WT.z {m:Nat} {done:List Nat} {a:Act} {w:World} (rs:List Nat) (hr:Am ops m eff done=rs) (h:WRun P r ops D [] K rs a w):WT P r ops D m eff K 0 done a w:=by rw [WT,hr];exact h
theorem WT.s {m n:Nat} {done:List Nat} {a:Act} {w:World} (rs es:List Nat) (hr:Am ops m eff done=rs) (hx:K4 ops eff done=es)
  (h:WRun P r ops D [] (fun a w=>∀e∈es,SK P r ops e (fun a' w'=>D w'∧WT P r ops D m eff K n (done++[e]) a' w') a w) rs a w):WT P r ops D m eff K (n+1) done a w:=by rw [WT,hr,hx];exact h
theorem Ag {p:Nat→Prop}:∀e∈([]:List Nat),p e:=fun e h=>by simp at h
theorem all_cons {p:Nat→Prop} {x:Nat} {l:List Nat} (h:p x) (t:∀e∈l,p e):∀e∈x::l,p e:=fun e he=>by
 rcases List.mem_cons.1 he with rfl|he
 ·exact h
 ·exact t e he
theorem Al {id:Nat} (m:Nat) (eff:List Nat) (J:Act→World→Prop) {a:Act} {w:World} (hmo:P.follows .mixedOrders=true) (hck:(An ops N&&Jm ops m&&Fa ops m&&Dn ops&&Nat.ble m ops.size&&Fv ops m eff eff.length [] []&&eff.all (fun e=>Nat.blt e m&&(match ops[e]? with|some o=>plainOp o.op|none=>false))&&Kn eff)=true) (hN:a.tmps.size=N)
  (h:∀w1,Ext w w1→D w1∧WT P r ops D m eff J eff.length [] a w1) (hJ:∀a w,J a w→WI P r ops Q m a w):WP P r (.region id ops true) Q a w :=
 Ux m eff J hmo hck hN (h _ (Ju w)).1 (h _ (Ju w)).2 hJ
theorem WTB.z {m:Nat} {done:List Nat} {a:Act} {w:World} (rs:List Nat) (hr:Am ops m eff done=rs) (h:WRun P r ops D [] K rs a w):WTB P r ops D m eff B K 0 done a w:=by rw [WTB,hr];exact h
theorem WTB.s {m n:Nat} {done:List Nat} {a:Act} {w:World} (rs es:List Nat) (hr:Am ops m eff done=rs) (hx:K4 ops eff done=es)
  (h:WRun P r ops D [] (fun a w=>∀e∈es,SKB P r ops e B (fun a' w'=>D w'∧WTB P r ops D m eff B K n (done++[e]) a' w') a w) rs a w):WTB P r ops D m eff B K (n+1) done a w:=by rw [WTB,hr,hx];exact h
theorem Ys {f:FuncId} {fn:Func} {c:Code} {args:Array Value} {R:Ending→World→Prop} {w:World} (hf:P.funcs[f]? = some fn) (hb:fn.body=some c) (N:Nat) (M:List (Nat×Value)) (hN:fn.ntmps=N)
  (hsz:Nat.ble args.size N=true) (hM:M.map (fun p=>(args++Array.replicate (N-args.size) undef).getD p.1 undef)=M.map Prod.snd) (h:∀a w1,w1=w→Fr N [] M a→WP P none c (bodyPost P fn R) a w1):Calls P f args w R :=
 Vo hf hb N M hN hsz hM fun a=>h a w rfl
theorem Lv {T:World→World→Prop} {cs:List Cd} {s:Sem Value} {v:Value} (h:B8 cs=false):Ob.ok P T D (.run cs s v):=fun hk=>by rw [h] at hk;cases hk
theorem W8 {T:World→World→Prop} {cs:List Cd} {f:FuncId} {args:Array Value} {v:Value} (h:B8 cs=false):Ob.ok P T D (.call cs f args v):=fun hk=>by rw [h] at hk;cases hk
theorem C0 {cs:List Cd} {i:Nat} {c:Cd} (hi:cs[i]? = some c) (h:(c.p==c.want)=false):B8 cs=false:=by
 cases hk:B8 cs with
 | false=>rfl
 | true =>
  have:=Rl.1 hk c (List.mem_of_getElem? hi);rw [this] at h;simp at h
end
end Go.Eng
namespace Go.Eng
open Go Go.RowKit
section
variable {P:Program} {ops:Array Oper} {Q:Exit→Act→World→Prop} {N:Nat} {ds:List Deferred} {M:List (Nat×Value)} {a:Act} {w w0:World} {H:List Res}
theorem A4y {g:Nat} {ps:Array Tmp} {assign body:Code} {gf:FuncId} {lb:Array Value} (args:Nat→Array Value) (N1:List Res→Prop) (N2:Code→List Res→Prop) (hF:Fr N ds M a) (hg:lookM M g=some (.func (.func gf) #[] lb)) (hS:St w0 H w)
  (hargs:∀l,#[.func (.yield l) #[] #[]]++lb=args l) (hent:∀args,pureSem P (callFunc gf args)=some (.enter gf args))
  (hcall:∀fn l D rec w1,rec=A2r a ps assign body D fn→St w0 (J1 l (rec .ready none)::J1 D (.deferred (some []))::H) w1 →
   Calls P gf (args l) w1 (fun e w3=>∃v,e=.returned v ∧
    ((∃H1,N1 H1∧St w0 (J1 l (rec .ready none)::J1 D (.deferred (some []))::H1) w3)∨∃c H2,N2 c H2∧St w0 (J1 l (rec .done (some c))::J1 D (.deferred (some []))::H2) w3)))
  (hdone:∀D a' w' H1,N1 H1→Fr N (⟨.collected D,#[]⟩::ds) M a'→St w0 (J1 D (.deferred (some []))::H1) w'→Q .normal a' w')
  (hstop:∀D c a' w' H2,N2 c H2→Fr N (⟨.collected D,#[]⟩::ds) M a'→St w0 (J1 D (.deferred (some []))::H2) w'→WP P none c Q a' w'):WP P none (.rangeFunc (.tmp g) ps assign body) Q a w:=by
 refine wpIn_rangeFunc ?_;intro fn hfn;rw [show (F0 none).round=none from rfl];obtain ⟨W1,hW1⟩:∃W1,(w.alloc (.deferred (some []))).alloc (A2r a ps assign body w.heap.size fn .ready none)=W1:=⟨_,rfl⟩;have hE:(Instr.enterLoop fn a.tmps ps assign body none).run P w=.ok (w.heap.size+1,[{ target:=.collected w.heap.size,args:=#[] }]) W1:=by rw [←hW1];exact run_enterLoop_outer _ _ _ _ _
 refine ⟨w.heap.size+1,[{ target:=.collected w.heap.size,args:=#[] }],W1,{ target:=.fn (.func gf) lb,args:=#[.func (.yield (w.heap.size+1)) #[] #[]] },W1,gf,
  #[.func (.yield (w.heap.size+1)) #[] #[]]++lb,W1,hE,?_,fun _ _=>trivial,?_,fun h=>by simp [F0,Fence.wide] at h,?_⟩
 ·have hge:a.eval (.tmp g)=.func (.func gf) #[] lb:=hF.get hg;simp only [resolve,hge];simp [go_sem]
 ·simp only [invoke];exact B3 _ _ (hent _) _
 ·rw [hargs];refine J9.2 (Calls.mono (hcall fn (w.heap.size+1) w.heap.size _ W1 rfl ?_) ?_)
  ·rw [←hW1];have h1:=(hS.allocObj (.deferred (some []))).allocObj (A2r a ps assign body w.heap.size fn .ready none)
   simpa using h1
  ·rintro e w3 ⟨v,rfl,h⟩;have fr:Fr N (⟨.collected w.heap.size,#[]⟩::ds) M { a with defers:=[{ target:=.collected w.heap.size,args:=#[] }]++a.defers }:=⟨hF.size,by simp [hF.defers],hF.slot⟩;rcases h with ⟨H1,hN1,h⟩|⟨c,H2,hN2,h⟩
   ·have hl:=h.res (i:=0) rfl;refine ⟨none,_,run_endLoop (P:=P) hl (by simp),?_⟩;exact hdone _ _ _ _ hN1 fr (h.putObj (i:=0) _ rfl).drop1
   ·have hl:=h.res (i:=0) rfl;refine ⟨some c,_,run_endLoop (P:=P) hl (by simp),?_⟩;exact hstop _ c _ _ _ hN2 fr (h.putObj (i:=0) _ rfl).drop1
theorem Wz {f:FuncId} {fn:Func} {c:Code} {args:Array Value} {R:Ending→World→Prop} (hf:P.funcs[f]? = some fn) (hb:fn.body=some c) (N:Nat) (M:List (Nat×Value)) (hN:fn.ntmps=N)
  (hsz:Nat.ble args.size N=true) (hM:M.map (fun p=>(args++Array.replicate (N-args.size) undef).getD p.1 undef)=M.map Prod.snd) (h:∀a w1,w1=w→Fr N (Tk []) M a→WP P none c (bodyPostM (F0 none) 0 P fn R) a w1):Calls P f args w R :=
 Yr hf hb N M hN hsz hM fun a=>h a w rfl
end
end Go.Eng
namespace Go.Eng
open Go Go.RowKit
section
variable {w w0:World} {A R G:List Res} {f:Res}
end
end Go.Eng
namespace Go.Eng
open Go Go.RowKit
set_option linter.unusedVariables false
set_option linter.unusedSimpArgs false
structure EndsC (P:Program) (ops:Array Oper) (n k:Nat) (M:List (Nat×Value)) (M':List (Nat×En)) (obs:List Ob):Prop where
 eq:((evalSeg P ops n k (ofM M) (obs.map Ob.v)).map fun x=>(M'.map (fun p=>lookE x.1 p.1),x.2))=some (M'.map (fun p=>some p.2),obs)
section
variable {P:Program} {r:Option Nat} {ops:Array Oper} {T:World→World→Prop} {Q:Exit→Act→World→Prop} {N:Nat} {ds:List Deferred} {M:List (Nat×Value)} {M':List (Nat×En)} {a:Act} {w:World} {obs:List Ob}
theorem Sd {n k:Nat} (hT:Trans T) (h:EndsC P ops n k M M' obs) (hC:(M'.all fun p=>B8 p.2.conds)=true) (D:World→Prop) (hob:Obs P T D obs):∃(Φ:List Asn),Φ.length=n∧Seg P r ops T D Φ k (toA (ofM M))∧(∀φ∈Φ,Qe T φ) ∧
  ∀a' w',a'.tmps.size=N→a'.defers=ds→EnvOk (R6 ops Φ k (toA (ofM M))) a' w'→Fr N ds (M'.map fun p=>(p.1,p.2.v)) a':=by
 have h:=h.eq
 cases hev:evalSeg P ops n k (ofM M) (obs.map Ob.v) with
 | none=>rw [hev] at h;simp at h
 | some x =>
  obtain ⟨E',obs'⟩:=x;rw [hev] at h;simp only [Option.map_some,Option.some.injEq,Prod.mk.injEq] at h;obtain ⟨h1,rfl⟩:=h;obtain ⟨Φ,hl,hseg,hst,henv⟩:=Qj (r:=r) hT n k _ _ _ _ hev (Pb M) hob;refine ⟨Φ,hl,hseg,hst,fun a' w' hN hd hE=>⟨hN,hd,?_⟩⟩;intro q hq;obtain ⟨p,hp,rfl⟩:=List.mem_map.1 hq;rw [henv] at hE;have hlk:lookE E' p.1=some p.2:=List.map_inj_left.1 h1 p hp;have:=hE p.1 (fun v _=>v=p.2.val) (by rw [Hv,hlk];rfl);have hc:=List.all_eq_true.1 hC p hp
  simpa [En.val,hc] using this
theorem A19 {n k:Nat} (k':Nat) (M':List (Nat×En)) (hF:Fr N ds M a) (hdst:An ops N=true) (hob:Obs P (fun a b=>b=a) (fun x=>x=w) obs) (h:EndsC P ops n k M M' obs) (hC:(M'.all fun p=>B8 p.2.conds)=true) (hk:k+n=k')
  (next:∀a',Fr N ds (M'.map fun p=>(p.1,p.2.v)) a'→WI P r ops Q k' a' w):WI P r ops Q k a w:=by
 obtain ⟨Φ,hl,hseg,hst,hfin⟩:=Sd (r:=r) (N:=N) (ds:=ds) N5 h hC (fun x=>x=w) hob;refine V0 N5 (fun _ _ h k=>k.trans h) hdst Φ k _ a w hseg hst (Lz _ _) rfl hF.size (Ji hF w) ?_;intro a' w' hw hN hd hE;subst hw;rw [hl,hk];exact next a' (hfin a' w' hN (hd.trans hF.defers) hE)
end
end Go.Eng
namespace Go.Eng
open Go Go.RowKit
set_option linter.unusedVariables false
set_option linter.unusedSimpArgs false
def A18:List Value→Value|[v]=>v|vs=>.tuple vs.toArray
def exc {ε α β:Type} (y:Except ε α) (f:ε→β) (g:α→β):β:=match y with|.error e=>f e|.ok x=>g x
theorem Nw {ε α β:Type} {y:Except ε α} {e:ε} {f:ε→β} {g:α→β} {z:β} (h:exc y f g=z) (hy:y=.error e):f e=z:=by subst hy;exact h
theorem Nx {ε α β:Type} {y:Except ε α} {x:α} {f:ε→β} {g:α→β} {z:β} (h:exc y f g=z) (hy:y=.ok x):g x=z:=by subst hy;exact h
section
variable {P:Program} {r:Option Nat} {ops:Array Oper} {Q:Exit→Act→World→Prop} {K:Act→World→Prop} {N:Nat} {ds:List Deferred} {M M':List (Nat×Value)} {a:Act} {w w0 w':World} {H:List Res} {k:Nat}
theorem WI.consQ {i:Nat} {o:Oper} (ho:ops[i]? = some o) (hw:Region.wanted o (yielded ops a.tmps)=true)
  (h:o.wpIn (F0 r) 0 P a w (fun a w=>WI P r ops Q (i+1) a w) Q):WI P r ops Q i a w:=by
 have hi:i<ops.size:=(Array.getElem?_eq_some_iff.1 ho).1;have e:List.range' i (ops.size-i)=i::List.range' (i+1) (ops.size-(i+1)):=by
  rw [show ops.size-i=(ops.size-(i+1))+1 by omega,List.range'_succ]
 unfold WI;rw [e,wpOpsIn_cons];unfold Go.wpOpIn;rw [ho];simp only [hw,if_true];exact h
theorem A5m (M':Value→List (Nat×Value)) {f:FuncId} {args:Array Value} {R:Value→World→Prop} {Rp:List PanicEntry→World→Prop} (hF:Fr N ds M a) (hdst:An ops N=true) (hs:CallAt P ops k M f args)
  (hc:Calls P f args w (fun e w'=>(∃v,e=.returned v∧R v w')∨∃ch,e=.panicked ch∧Rp ch w')) (hM:∀v,NextM ops k M v (M' v))
  (hp:∀ch w',Rp ch w'→Q (.panic ch) a w')
  (next:∀v w' a',R v w'→Fr N ds (M' v) a'→WI P r ops Q (k+1) a' w'):WI P r ops Q k a w:=by
 have hs:=hs.eq
 cases ho:plainAt ops k M with
 | none=>rw [ho] at hs;simp at hs
 | some o =>
  rw [ho] at hs;simp only [Option.bind_some] at hs
  split at hs
  ·rename_i f' args' hpu
   simp at hs;obtain ⟨rfl,rfl⟩:=hs;obtain ⟨h1,h2,h3⟩:=Fm (r:=r) ho hF;refine WI.consQ h1 h2 ⟨fun _ _=>trivial,?_⟩
   change o.uponIn (F0 r) 0 P a _ Q ((o.semAt r a.eval).run P w)
   rw [h3,B3 _ _ hpu w];refine ⟨fun h=>by simp [F0,Fence.wide] at h,J9.2 (Calls.mono hc ?_)⟩;rintro e w'' (⟨v,rfl,hv⟩|⟨ch,rfl,hv⟩)
   ·exact next v w'' _ hv (Er h1 hdst hF (hM v))
   ·exact hp ch w'' hv
  ·simp at hs
structure PanicAt (ops:Array Oper) (k:Nat) (M:List (Nat×Value)) (t:TypeId) (v:Value):Prop where
 eq:((plainAt ops k M).bind fun o=>match o.op with|.panic x=>some (rhoE (ofM M) x)|_=>none)=some (.iface t v)
theorem Q7 {t:TypeId} {v:Value} (hF:Fr N ds M a) (hs:PanicAt ops k M t v) (h:Q (.panic [{ v:=.iface t v,recovered:=false }]) a w):WI P r ops Q k a w:=by
 have hs:=hs.eq
 cases ho:plainAt ops k M with
 | none=>rw [ho] at hs;simp at hs
 | some o =>
  rw [ho] at hs;simp only [Option.bind_some] at hs
  split at hs
  ·rename_i x hop
   simp only [Option.some.injEq] at hs;obtain ⟨h1,h2,h3⟩:=Fm (r:=r) ho hF;refine WI.consQ h1 h2 ⟨fun _ _=>trivial,?_⟩
   change o.uponIn (F0 r) 0 P a _ Q ((o.semAt r a.eval).run P w)
   have:(execOp (rhoE (ofM M)) o).run P w=.halt (.panic (.iface t v)) w:=by
    unfold execOp;rw [hop];simp [Instr.panic,hs,goPanic]
   rw [h3,this];exact h
  ·simp at hs
theorem Sm {fn:Func} {R:Ending→World→Prop} {ch:List PanicEntry} (hF:Fr N [] M a) (hR:R (.panicked ch) w):bodyPost P fn R (.panic ch) a w:=⟨hF.defers,hR⟩
structure DeferAt (P:Program) (ops:Array Oper) (k:Nat) (M:List (Nat×Value)) (d:Deferred):Prop where
 eq:((ops[k]?).bind fun o=>match o.guard with
  | none=>bif o.op.operands.toList.all (okOperand (ofM M) [])&&(match o.op with|.defer _=>true|_=>false) then (match pureSem P (execOp (rhoE (ofM M)) o) with|some (.defer d)=>some d|_=>none) else none
  | some _=>none)=some d
theorem A04 (k':Nat) (d:Deferred) (M':List (Nat×Value)) (hF:Fr N ds M a) (hdst:An ops N=true) (hs:DeferAt P ops k M d) (hM:NextM ops k M undef M') (hk:k+1=k')
  (next:∀a',Fr N (d::ds) M' a'→WI P none ops Q k' a' w):WI P none ops Q k a w:=by
 subst hk;have hs:=hs.eq
 cases ho:ops[k]? with
 | none=>rw [ho] at hs;simp at hs
 | some o =>
  rw [ho] at hs;simp only [Option.bind_some] at hs
  cases hg:o.guard with
  | some g=>rw [hg] at hs;simp at hs
  | none =>
   rw [hg] at hs;simp only at hs
   cases hc:(o.op.operands.toList.all (okOperand (ofM M) [])&&(match o.op with|.defer _=>true|_=>false)) with
   | false=>rw [hc] at hs;simp at hs
   | true =>
    rw [hc] at hs;simp only [cond_true] at hs
    split at hs
    ·rename_i d' hpu
     simp only [Option.some.injEq] at hs;subst hs;rw [Bool.and_eq_true,List.all_eq_true] at hc;have hex:execOp a.eval o=execOp (rhoE (ofM M)) o:=by
      refine execOp_congr o (fun cs b hh=>by have:=hc.2;rw [hh] at this;simp at this) ?_;intro x hx;refine Gq (cur:=[]) (Pb M) (fun c hc=>by simp at hc) rfl (hc.1 x (by simpa using hx)) ?_;intro t _ e he;obtain ⟨h1,h2⟩:=Pi he;have:=hF.slot _ h2;simp only at this;rw [this];simp [En.val,h1,B8]
     refine WI.consQ ho (by simp [Region.wanted,hg]) ⟨fun _ _=>trivial,?_⟩
     change o.uponIn (F0 none) 0 P a _ Q ((o.semAt none a.eval).run P w)
     rw [Oper.semAt_none,hex,B3 _ _ hpu w];have hF':Fr N (d'::ds) M { a with defers:=d'::a.defers }:=⟨hF.size,by simp [hF.defers],hF.slot⟩;exact next _ (Er ho hdst hF' hM)
    ·simp at hs
theorem Yq {f:FuncId} {fn:Func} {c:Code} {args:Array Value} {R:Ending→World→Prop} (hf:P.funcs[f]? = some fn) (hb:fn.body=some c) (N:Nat) (M:List (Nat×Value)) (hN:fn.ntmps=N)
  (hsz:Nat.ble args.size N=true) (hM:M.map (fun p=>(args++Array.replicate (N-args.size) undef).getD p.1 undef)=M.map Prod.snd) (h:∀a w1,w1=w→Fr N [] M a→WP P none c (bodyPostDIn (F0 none) 0 P fn R) a w1):Calls P f args w R:=by
 refine J9 (r:=none) (n:=0) |>.1 (callsIn_of_wp_defers hf hb trivial ?_ rfl);refine h _ _ rfl ⟨?_,rfl,fun p hp=>?_⟩
 ·have:=Nat.le_of_ble_eq_true hsz;simp [hN];omega
 ·rw [hN];exact List.map_inj_left.1 hM p hp
theorem Uy {fn:Func} (rs:List ResultVar) (vs:List Value) (hF:Fr N ds M a) (hrs:fn.results=rs.toArray) (h:Pt P w M rs vs) :
  (results fn a.tmps).run P w=.ok (A18 vs) w:=by
 have hm:=Rg (a:=a) rs vs h hF;have e:results fn a.tmps=(do let vs ←fn.results.mapM (Q9 a.tmps);pure (if h:vs.size=1 then vs[0] else .tuple vs)):=by
  unfold results
  congr 1
 rw [e,hrs,List.mapM_toArray];simp [hm];rcases vs with _|⟨v,_|⟨u,vs⟩⟩<;>simp [A18]
theorem Vp {fn:Func} {R:Ending→World→Prop} (rs:List ResultVar) (vs:List Value) (hF:Fr N [] M a) (hrs:fn.results=rs.toArray) (h:Pt P w M rs vs)
  (hR:R (.returned (A18 vs)) w):bodyPostDIn (F0 none) 0 P fn R .ret a w:=by
 show LeavesIn (F0 none) 0 P fn a.tmps R a.defers .returning w;rw [hF.defers];exact ⟨_,Uy rs vs hF hrs h,hR⟩
theorem A0b {fn:Func} {R:Ending→World→Prop} {fv:Nat} {cap:Array Value} (rs:List ResultVar) (hF:Fr N [⟨.fn (.func fv) cap,#[]⟩] M a) (hrs:fn.results=rs.toArray) (hent:∀args,pureSem P (callFunc fv args)=some (.enter fv args))
  (h:CallsDIn (F0 none) 0 P fv cap .returning w fun e u' w'=>∃v,e=.returned v∧settle u'=.returning∧∃vs,Pt P w' M rs vs∧R (.returned (A18 vs)) w'):bodyPostDIn (F0 none) 0 P fn R .ret a w:=by
 show LeavesIn (F0 none) 0 P fn a.tmps R a.defers .returning w;rw [hF.defers];refine leavesIn_cons (f:=fv) (args:=cap) (by simp) (fun h=>by simp [F0,Fence.wide] at h) ?_ (fun _ _=>trivial) (CallsDIn.mono h ?_)
 ·simp only [invoke];rw [show (#[]:Array Value)++cap=cap by simp];exact B3 _ _ (hent cap) w
 ·rintro e u' w' ⟨v,rfl,hu,vs,hr,hR⟩;show LeavesIn (F0 none) 0 P fn a.tmps R [] (settle u') w';rw [hu];exact ⟨_,Uy rs vs hF hrs hr,hR⟩
theorem D9 {fn:Func} {R:Ending→World→Prop} {fv:Nat} {cap:Array Value} {ch:List PanicEntry} (rs:List ResultVar) (hF:Fr N [⟨.fn (.func fv) cap,#[]⟩] M a) (hrs:fn.results=rs.toArray) (hent:∀args,pureSem P (callFunc fv args)=some (.enter fv args))
  (h:CallsDIn (F0 none) 0 P fv cap (.panicking ch) w fun e u' w'=>∃v,e=.returned v∧settle u'=.returning∧∃vs,Pt P w' M rs vs∧R (.returned (A18 vs)) w'):bodyPostDIn (F0 none) 0 P fn R (.panic ch) a w:=by
 show LeavesIn (F0 none) 0 P fn a.tmps R a.defers (.panicking ch) w;rw [hF.defers];refine leavesIn_cons (f:=fv) (args:=cap) (by simp) (fun h=>by simp [F0,Fence.wide] at h) ?_ (fun _ _=>trivial) (CallsDIn.mono h ?_)
 ·simp only [invoke];rw [show (#[]:Array Value)++cap=cap by simp];exact B3 _ _ (hent cap) w
 ·rintro e u' w' ⟨v,rfl,hu,vs,hr,hR⟩;show LeavesIn (F0 none) 0 P fn a.tmps R [] (settle u') w';rw [hu];exact ⟨_,Uy rs vs hF hrs hr,hR⟩
def Rx:FrameMode→Value
 | .panicking ({ v,recovered:=false,goexit:=false }::_)=>v
 | _=>.nilIface
def P4:FrameMode→FrameMode
 | .panicking ({ v,recovered:=false,goexit:=false }::older)=>.panicking ({ v,recovered:=true }::older)
 | u=>u
theorem We (c:Frame) (cs:List Frame):(recoverD (c::cs)=some (Rx c.mode,{ c with mode:=P4 c.mode }::cs))∨(recoverD (c::cs)=none∧Rx c.mode=.nilIface∧P4 c.mode=c.mode):=by
 cases hm:c.mode with
 | run=>exact .inr (by simp [recoverD,Rx,P4,hm])
 | returning=>exact .inr (by simp [recoverD,Rx,P4,hm])
 | panicking l =>
  cases l with
  | nil=>exact .inr (by simp [recoverD,Rx,P4,hm])
  | cons x l =>
   obtain ⟨v,rc,ge⟩:=x
   cases rc<;>cases ge
   ·exact .inl (by simp [recoverD,Rx,P4,hm])
   ·exact .inr (by simp [recoverD,Rx,P4,hm])
   ·exact .inr (by simp [recoverD,Rx,P4,hm])
   ·exact .inr (by simp [recoverD,Rx,P4,hm])
structure RecAt (P:Program) (ops:Array Oper):Prop where
 eq:((ops[0]?).map fun o=>(o.guard.isNone,match pureSem P (execOp (fun _=>undef) o) with|some .recover=>true|_=>false,o.op.operands.size,plainOp o.op))=some (true,true,0,true)
theorem Nv {f:FuncId} {fn:Func} {id:Nat} {rest:Code} {args:Array Value} {u:FrameMode} {R:Ending→FrameMode→World→Prop} (hf:P.funcs[f]? = some fn) (hb:fn.body=some (.seq (.region id ops false) rest)) (N:Nat) (M M':List (Nat×Value)) (hN:fn.ntmps=N)
  (hsz:Nat.ble args.size N=true) (hM:M.map (fun p=>(args++Array.replicate (N-args.size) undef).getD p.1 undef)=M.map Prod.snd) (hdst:An ops N=true) (hs:RecAt P ops) (hM':NextM ops 0 M (Rx u) M')
  (h:∀a,Fr N [] M' a→WI P none ops (Exit.then (WP P none rest (bodyPost P fn fun e w=>R e (P4 u) w)) (bodyPost P fn fun e w=>R e (P4 u) w)) 1 a w):CallsDIn (F0 none) 0 P f args u w R:=by
 have hs:=hs.eq
 cases ho:ops[0]? with
 | none=>rw [ho] at hs;simp at hs
 | some o =>
 rw [ho] at hs;simp only [Option.map_some,Option.some.injEq,Prod.mk.injEq] at hs;obtain ⟨hg,hrec,hop,hpl⟩:=hs;have hF0:Fr N [] M { tmps:=args++Array.replicate (fn.ntmps-args.size) undef,defers:=[] }:=by
  refine ⟨?_,rfl,fun p hp=>?_⟩
  ·have:=Nat.le_of_ble_eq_true hsz;simp [hN];omega
  ·rw [hN];exact List.map_inj_left.1 hM p hp
 refine callsDIn_of_wpSIn hf hb trivial fun c₀ cs hu=>wpSIn_seq ?_;generalize ({ tmps:=args++Array.replicate (fn.ntmps-args.size) undef,defers:=[] }:Act)=a at hF0;have hws:Region.wanted o (yielded ops a.tmps)=true:=by
  cases hgg:o.guard with
  | none=>simp [Region.wanted,hgg]
  | some g=>rw [hgg] at hg;simp at hg
 have hex:execOp a.eval o=execOp (fun _=>undef) o:=by
  refine execOp_congr o (fun cs b hh=>by rw [hh] at hpl;simp [plainOp] at hpl) ?_;intro x hx;have:o.op.operands=#[]:=Array.eq_empty_of_size_eq_zero hop;rw [this] at hx;simp at hx
 have hrun:(execOp a.eval o).run P w=.ok .recover w:=by
  rw [hex]
  split at hrec
  ·rename_i hp;exact B3 _ _ hp w
  ·simp at hrec
 have hi:0<ops.size:=(Array.getElem?_eq_some_iff.1 ho).1;have hrange:List.range ops.size=0::List.range' 1 (ops.size-1):=by
  rw [List.range_eq_range',show ops.size=(ops.size-1)+1 by omega,List.range'_succ];simp
 intro b k hbk hro hFb hroom;have hq:=h (a.put o.dst (Rx u)) (Er ho hdst hF0 hM');have hkey:∀cs',cs'={ c₀ with mode:=P4 u }::cs→step P (lone (b.atR a (.inRegion ops (List.range ops.size)::k)) (c₀::cs) w)=.next (lone (b.atR (a.put o.dst (Rx u)) (.inRegion ops (List.range' 1 (ops.size-1))::k)) cs' w):=by
  rintro cs' rfl;rw [hrange];have hg:=stepGR_op (P:=P) (b:=b) (k:=k) (cs:=c₀::cs) (w:=w) (rest:=List.range' 1 (ops.size-1)) ho hws;rw [hro,Oper.semAt_none] at hg;have hfin:∀v,(b.atR a (.inRegion ops (0::List.range' 1 (ops.size-1))::k)).finish v=b.atR (a.put o.dst v) (.inRegion ops (List.range' 1 (ops.size-1))::k):=by
   intro v;rw [Frame.finish_atR,ho];rfl
  have hk:(b.atR a (.inRegion ops (0::List.range' 1 (ops.size-1))::k)).kind=.deferred:=hbk;have htr:=tryRecover_deferred hk (c₀::cs);rcases We c₀ cs with hr|⟨hr,hv,hm⟩
  ·rw [hu] at hr;refine step_lone_go ?_;rw [hg,←hfin];simp only [Frame.atR,hro] at htr ⊢;simp [stepG.apply,hrun,htr,hr]
  ·rw [hu] at hv hm;have hc:({ c₀ with mode:=P4 u }:Frame)=c₀:=by rw [hm,←hu]
   refine step_lone_go ?_;rw [hg,hc,hv,←hfin];simp only [Frame.atR,hro] at htr ⊢;simp [stepG.apply,hrun,htr,hr]
 obtain ⟨e,a',w',hqe,harr⟩:=wp_opsIn _ _ _ hq b k ({ c₀ with mode:=P4 u }::cs) hro hFb hroom;refine ⟨e,a',{ c₀ with mode:=P4 u }::cs,w',rfl,?_,.of_steps (StepsIn.trans (.one (fenced_calm hFb hroom rfl) stepR_region) (.one (Pg _ _ _) (hkey _ rfl))) harr⟩;have hB:∀e a w,bodyPost P fn (fun e w=>R e (P4 u) w) e a w→bodyPostS P fn c₀ cs R e a ({ c₀ with mode:=P4 u }::cs) w:=by
  intro e a w hb
  cases e with
  | normal=>obtain ⟨h1,v,h2,h3⟩:=hb;exact ⟨h1,_,rfl,v,h2,h3⟩
  | ret=>obtain ⟨h1,v,h2,h3⟩:=hb;exact ⟨h1,_,rfl,v,h2,h3⟩
  | panic ch=>obtain ⟨h1,h2⟩:=hb;exact ⟨h1,_,rfl,h2⟩
  | outgrown=>exact ⟨_,hb⟩
  | exit id=>exact hb.elim
  | goto l=>exact hb.elim
 cases e with
 | normal=>exact wpSIn_of_wpIn rfl (wpIn_mono hqe fun e a w h=>hB e a w h)
 | ret=>exact hB .ret _ _ hqe
 | panic ch=>exact hB (.panic ch) _ _ hqe
 | outgrown=>exact hB .outgrown a' w' hqe
 | exit id=>exact hqe.elim
 | goto l=>exact hqe.elim
end
end Go.Eng
namespace Go.Eng
open Go Go.RowKit
def isI (t:Nat):Value→Bool
 | .iface u (.agg cs)=>Nat.beq u t&&Nat.beq cs.size 0
 | _=>false
theorem Mj {t:Nat} {v:Value} (h:isI t v=true):v=.iface t (.agg #[]):=by
 unfold isI at h
 split at h
 ·rename_i u cs
  rw [Bool.and_eq_true,Nat.beq_eq,Nat.beq_eq] at h;obtain ⟨rfl,h⟩:=h;rw [Array.eq_empty_of_size_eq_zero h]
 ·cases h
end Go.Eng
namespace Go.Eng
open Go Go.RowKit
set_option linter.unusedVariables false
section
variable {P:Program} {r:Option Nat} {ops:Array Oper} {D:World→Prop} {eff:List Nat} {K:Act→World→Prop} {N:Nat} {ds:List Deferred} {M M':List (Nat×Value)} {a:Act} {w:World} {obs:List Ob} {k:Nat}
theorem Ua (x y:Option Value):x.getD undef=y.getD undef→(match x with|some (.bool b)=>some b|_=>none)=(match y with|some (.bool b)=>some b|_=>none):=by
 intro h
 cases x with
 | none =>
  cases y with
  | none=>rfl
  | some y=>simp at h;subst h;rfl
 | some x =>
  cases y with
  | none=>simp at h;subst h;rfl
  | some y=>simp at h;subst h;rfl
theorem Tt (hF:Fr N ds M a) (hs:SkipAt ops k M):∃o g,ops[k]? = some o∧o.guard=some g∧guardIs ops M g=some false:=by
 have hs:=hs.eq
 cases ho:ops[k]? with
 | none=>rw [ho] at hs;simp at hs
 | some o =>
  rw [ho] at hs;simp only [Option.bind_some] at hs
  cases hg:o.guard with
  | none=>rw [hg] at hs;simp at hs
  | some g=>rw [hg] at hs;exact ⟨o,g,rfl,hg,by simpa using hs⟩
theorem A57 (M':List (Nat×Value)) (hF:Fr N ds M a) (hdst:An ops N=true) (hs:SkipAt ops k M) (hM:NextM ops k M undef M')
  (next:∀a',Fr N ds M' a'→K a' w):SK P r ops k K a w:=by
 obtain ⟨o,g,ho,hg,hgi⟩:=Tt hF hs;have hw:=Lf hgi hF;refine ⟨o,ho,?_⟩;unfold OpG;have:Region.wanted o (yielded ops a.tmps)=false:=by simp only [Region.wanted,hg];exact hw
 rw [this];exact next _ (Er ho hdst hF hM)
theorem A6k {rest:List Nat} (M':List (Nat×Value)) (hF:Fr N ds M a) (hdst:An ops N=true) (hne:eff.contains k=false) (hs:SkipAt ops k M) (hM:NextM ops k M undef M')
  (next:∀a',Fr N ds M' a'→WRun P r ops D eff K rest a' w):WRun P r ops D eff K (k::rest) a w:=by
 obtain ⟨o,g,ho,hg,hgi⟩:=Tt hF hs;have hw:=Lf hgi hF;have hd:dstAt ops k=o.dst:=by simp [dstAt,ho]
 rw [WRun,hne];refine ⟨undef,⟨o,ho,fun a' w' hsame _=>?_⟩,?_⟩
 ·unfold OpG;have:Region.wanted o (yielded ops a'.tmps)=false:=by
   simp only [Region.wanted,hg];rw [←hw]
   congr 1
   obtain ⟨j,b⟩:=g;unfold yielded
   cases hj:(ops[j]?).bind (·.dst) with
   | none=>rfl
   | some t =>
    have:=hsame t (by simp [Oper.looksAt,hg,hj]);rw [Array.getD_eq_getD_getElem?,Array.getD_eq_getD_getElem?] at this;simp only [Option.bind_some];exact Ua _ _ this
  rw [this];exact ⟨rfl,rfl⟩
 ·rw [hd];exact next _ (Er ho hdst hF hM)
structure EndsLC (P:Program) (ops:Array Oper) (rs:List Nat) (M:List (Nat×Value)) (M':List (Nat×En)) (obs:List Ob):Prop where
 eq:((evalL P ops rs (ofM M) (obs.map Ob.v)).map fun x=>(M'.map (fun p=>lookE x.1 p.1),x.2))=some (M'.map (fun p=>some p.2),obs)
theorem Rr {rest:List Nat} (rs:List Nat) (M':List (Nat×En)) (hF:Fr N ds M a) (hdst:An ops N=true) (hne:rs.all (fun i=>!eff.contains i)=true) (hob:Obs P (fun a b=>b=a) D obs) (h:EndsLC P ops rs M M' obs) (hC:(M'.all fun p=>B8 p.2.conds)=true)
  (next:∀a',Fr N ds (M'.map fun p=>(p.1,p.2.v)) a'→WRun P r ops D eff K rest a' w):WRun P r ops D eff K (rs++rest) a w:=by
 have h:=h.eq
 cases hev:evalL P ops rs (ofM M) (obs.map Ob.v) with
 | none=>rw [hev] at h;simp at h
 | some x =>
  obtain ⟨E',obs'⟩:=x;rw [hev] at h;simp only [Option.map_some,Option.some.injEq,Prod.mk.injEq] at h;obtain ⟨h1,rfl⟩:=h;refine Td hdst rs _ _ _ _ a hev (Pb M) hob hne hF.size (Ji hF w) ?_;intro a' hN hd hE;refine next a' ⟨hN,hd.trans hF.defers,fun q hq=>?_⟩
  obtain ⟨p,hp,rfl⟩:=List.mem_map.1 hq;have hlk:lookE E' p.1=some p.2:=List.map_inj_left.1 h1 p hp;have:=hE p.1 (fun v _=>v=p.2.val) (by rw [Hv,hlk];rfl);have hc:=List.all_eq_true.1 hC p hp
  simpa [En.val,hc] using this
end
end Go.Eng
namespace Go.Eng
open Go Go.RowKit
section
variable {H:Type} {enc:TypeId×Value→H} {P:Program} {w:World} {α:Type} {t e:TypeId} {cs:List Value} {sz:Nat}
def Reads (enc:TypeId×Value→H) (P:Program) (w:World) (t:TypeId) (cs:List Value):Prop:=∃fuel d,DataW.trod enc P w 0 (fun _=>true) true fuel t cs=some d
theorem Reads.of {v:Value} {d:DataW H} {p:List MemPlace} (h:DataW.Trod enc P w 0 (fun _=>true) true t v d p):Reads enc P w t v.cells.toList:=by
 obtain ⟨f,h⟩:=h;exact ⟨f,_,h⟩
theorem Reads.int {k:IntKind} (ht:P.underlying t=some (.int k)) (h:Reads enc P w t cs):∃n,cs=[.int k n]∧(Lit.int k n).wf=true:=by
 obtain ⟨f,d,h⟩:=h;obtain ⟨n,h1,_,h2⟩:=DataW.trod_int ht h;exact ⟨n,h1,h2⟩
theorem Reads.len {fs:Array Field} (ht:P.underlying t=some (.struct fs)) (h:Reads enc P w t cs):cs.length=P.cellsOf t:=by
 obtain ⟨f,d,h⟩:=h;obtain ⟨_,_,_,_,hl,_⟩:=DataW.trod_struct ht h;exact hl
theorem Reads.field {fs:Array Field} (ht:P.underlying t=some (.struct fs)) (h:Reads enc P w t cs) (i:Nat) {f:Field} (hf:fs[i]? = some f) (m:Nat) (hm:P.cellsOf f.type=m):Reads enc P w f.type ((cs.drop f.offset).take m):=by
 obtain ⟨fu,d,h⟩:=h;obtain ⟨xs,n,_,_,_,hx,hall⟩:=DataW.trod_struct ht h;have hi:i<fs.size:=(Array.getElem?_eq_some_iff.1 hf).1;have:=hall i f hf;rw [List.getElem?_eq_getElem (by omega),hm] at this;exact ⟨n,_,this⟩
theorem Reads.arrLen {n:Nat} (ht:P.underlying t=some (.array n e)) (h:Reads enc P w t cs):cs.length=P.cellsOf t:=by
 obtain ⟨f,d,h⟩:=h;obtain ⟨_,_,_,_,hl,_⟩:=DataW.trod_array ht h;exact hl
theorem Reads.part {n:Nat} (ht:P.underlying t=some (.array n e)) (h:Reads enc P w t cs) (i:Nat) (hi:i<n) (m:Nat) (hm:P.cellsOf e=m):Reads enc P w e ((cs.drop (i*m)).take m):=by
 obtain ⟨fu,d,h⟩:=h;obtain ⟨xs,q,_,_,_,hx,hall⟩:=DataW.trod_array ht h;have:=hall i hi;rw [List.getElem?_eq_getElem (by omega),hm] at this;exact ⟨q,_,this⟩
theorem Rj {β:Type} {R:β→α→Prop} {ok:α→Prop}:∀(css:List β),(∀c∈css,∃x,R c x∧ok x)→∃l,All2 R css l∧∀x∈l,ok x
 | [],_=>⟨[],.nil,by simp⟩
 | c::css,h=>by
  obtain ⟨x,hx,hk⟩:=h c (by simp);obtain ⟨l,hl,hl2⟩:=Rj css (fun c hc=>h c (by simp [hc]));exact ⟨x::l,.cons hx hl,by simpa using ⟨hk,hl2⟩⟩
theorem Reads.row (ht:P.underlying t=some (.slice e)) (hsz:P.cellsOf e=sz) (h0:0<sz) (h:Reads enc P w t cs) :
  ∃(ad:Option Addr) (cap:Nat) (css:List (List Value)),cs=[.slice ad css.length cap]∧ArrM (Eh w) sz (fN sz) ad cap css∧∀c∈css,c.length=sz∧Reads enc P w e c:=by
 obtain ⟨f,d,h⟩:=h;rcases DataW.trod_slice ht h with ⟨rfl,_⟩|⟨a,len,cap,elems,rest,n,_,rfl,_,_,hl,hm,hlen,hel,_,_⟩
 ·exact ⟨none,0,[],rfl,ArrM.nil,by simp⟩
 ·rw [hsz] at hel;have hget:∀i,i<len→∃c,w.cells? 0 (a.add (i*sz)) sz=some c∧Reads enc P w e c:=by
   intro i hi;have:=hel i hi;rw [List.getElem?_eq_getElem (by omega),Option.bind_eq_some_iff] at this;obtain ⟨c,h1,h2⟩:=this;exact ⟨c,h1,n,_,h2⟩
  let css:=(List.range len).map fun i=>(w.cells? 0 (a.add (i*sz)) sz).getD []
  have hcl:css.length=len:=by simp [css]
  have hci:∀i,i<len→∃c,css[i]? = some c∧w.cells? 0 (a.add (i*sz)) sz=some c∧Reads enc P w e c:=by
   intro i hi;obtain ⟨c,h1,h2⟩:=hget i hi;exact ⟨c,by simp [css,hi,h1],h1,h2⟩
  have hlen':∀c∈css,c.length=sz∧Reads enc P w e c:=by
   intro c hc;obtain ⟨i,hi,he⟩:=List.mem_iff_getElem.1 hc;obtain ⟨c',h1,h2,h3⟩:=hci i (by omega);rw [List.getElem?_eq_getElem hi,he] at h1;obtain rfl:=Option.some.inj h1;exact ⟨(World.cells?_some h2).2.1,h3⟩
  refine ⟨some a,cap,css,by rw [hcl],Arr.toM ⟨rfl,some a,cap,rfl,?_,by omega,hm,fun hn=>⟨a,rfl,?_,?_⟩⟩,hlen'⟩
  ·exact D3 (C4 sz) css
  ·obtain ⟨c,h1,_⟩:=hget 0 (by omega);have:=World.cells?_block h1 h0
   simpa [Addr.add] using this
  ·intro j u hj;have hjl:j<(css.flatMap (fN sz)).length:=(List.getElem?_eq_some_iff.1 hj).1;rw [D3 (C4 sz),hcl] at hjl;have hd:j/sz<len:=Nat.div_lt_of_lt_mul (by rwa [Nat.mul_comm]);obtain ⟨c,h1,h2,h3⟩:=hci (j/sz) hd;have hc:=(hlen' c (List.mem_of_getElem? h1)).1;have hmod:=Nat.mod_lt j h0;have hj2:j=j/sz*sz+j%sz:=by rw [Nat.mul_comm];exact (Nat.div_add_mod j sz).symm
   rw [hj2,Mx (C4 sz) css _ _ c h1 hmod] at hj;have hfn:fN sz c=c:=by simp [fN,←hc]
   rw [hfn] at hj;have:=(World.cells?_some h2).2.2 (j%sz) hmod;rw [Addr.add_add,←hj2] at this;rw [this,hj]
theorem Reads.sliceQ (ht:P.underlying t=some (.slice e)) (hsz:P.cellsOf e=sz) (h0:0<sz) {R:Rel α} {ok:α→Prop} (hR:∀c,c.length=sz→Reads enc P w e c→∃x,R (Eh w) c x∧ok x) (h:Reads enc P w t cs) :
  ∃(ad:Option Addr) (cap:Nat) (css:List (List Value)) (l:List α),cs=[.slice ad l.length cap]∧ArrQ (Eh w) sz R ad cap css l∧∀x∈l,ok x:=by
 obtain ⟨ad,cap,css,rfl,hA,hall⟩:=Reads.row ht hsz h0 h;obtain ⟨l,h1,h2⟩:=Rj (R:=R (Eh w)) (ok:=ok) css (fun c hc=>hR c (hall c hc).1 (hall c hc).2);exact ⟨ad,cap,css,l,by rw [h1.len],⟨hA,h1⟩,h2⟩
theorem Reads.slice (ht:P.underlying t=some (.slice e)) (hsz:P.cellsOf e=sz) (h0:0<sz) {f:α→List Value} {ok:α→Prop} (hR:∀c,c.length=sz→Reads enc P w e c→∃x,c=f x∧ok x) (hf:∀x,(f x).length=sz) (h:Reads enc P w t cs) :
  ∃(ad:Option Addr) (cap:Nat) (l:List α),cs=[.slice ad l.length cap]∧ArrM (Eh w) sz f ad cap l∧∀x∈l,ok x:=by
 obtain ⟨ad,cap,css,l,rfl,⟨hA,h1⟩,h2⟩:=Reads.sliceQ (R:=RpF f) ht hsz h0 hR h;have hcs:css=l.map f:=by
  clear hA h h2
  induction h1 with
  | nil=>rfl
  | cons h _ ih=>rw [List.map_cons,←ih,←(show _=f _ from h)]
 subst hcs;refine ⟨ad,cap,l,rfl,fun w' hw'=>?_,h2⟩;have:=hA w' hw';have hfm:(l.map f).flatMap (fN sz)=l.flatMap f:=by
  rw [List.flatMap_map]
  congr 1
  funext x
  simp [fN,←hf x]
 unfold Arr at this ⊢;rw [hfm] at this
 simpa using this
theorem Reads.struct {fs:Array Field} (ht:P.underlying t=some (.struct fs)) {r:Reach} {b0:Nat} {v:Value} (hv:Value.okWide P w r b0 t v):∃cs:List Value,v=.agg cs.toArray∧v.cells.toList=cs:=by
 obtain ⟨c,rfl,_⟩:=WideShapes.okWide_struct ht hv;exact ⟨c.toList,by simp,by simp [Value.cells]⟩
end
end Go.Eng
namespace Go.Eng
open Go Go.RowKit
abbrev iv (n:Int):Value:=.int .i64 n
abbrev pb (b:Nat):Value:=.pointer (some ⟨b,0,none⟩)
section
variable {P:Program} {r:Option Nat} {ops:Array Oper} {Q:Exit→Act→World→Prop} {K:Act→World→Prop} {N:Nat} {ds:List Deferred} {M:List (Nat×Value)} {a:Act} {w:World}
theorem esr {id:Nat} {ops:Array Oper} {y:Code} (h:WI P r ops (Exit.then (fun a w=>WP P r y Q a w) Q) 0 a w):WP P r (.seq (.region id ops false) y) Q a w:=Ai (WI.region h)
theorem wfn {k:Nat} (hk:Nat.beq k ops.size=true) (h:K a w):WI P r ops (Exit.then K Q) k a w:=WI.fin hk (A3 h)
theorem rn {k:Nat} (n k':Nat) (M':List (Nat×Value)) (hF:Fr N ds M a) (next:∀a',Fr N ds M' a'→WI P r ops Q k' a' w) (hdst:An ops N=true:=by kernel_rfl) (h:Ends P ops n k M M' []:=by exact ⟨by kernel_rfl⟩) (hk:k+n=k':=by rfl):WI P r ops Q k a w :=
 Wg k' M' hF hdst A4 h hk next
end
end Go.Eng
namespace Go.Eng
open Go Go.RowKit
abbrev sv {α:Type} (ad:Option Addr) (l:List α) (cap:Nat):Value:=.slice ad l.length cap
abbrev sb (b n:Nat):Value:=.slice (some ⟨b,0,none⟩) n n
abbrev ln {α:Type} (l:List α):Int:=((l.length:Nat):Int)
abbrev fz (w:World) (μ:Frz):Res:=F8 w.heap.size μ
section
variable {P:Program} {r:Option Nat} {ops:Array Oper} {Q:Exit→Act→World→Prop} {K:Act→World→Prop} {N:Nat} {ds:List Deferred} {M:List (Nat×Value)} {a:Act} {w:World} {H:List Res}
end
section
variable {P:Program} {r:Option Nat} {ops:Array Oper} {K:Act→World→Prop} {N:Nat} {ds:List Deferred} {M:List (Nat×Value)} {a:Act} {w0 w:World} {k:Nat} {H:List Res} {α β:Type} {e sz cap:Nat} {f:α→List Value} {ad:Option Addr} {c:List α} {l:List β}
end
end Go.Eng
namespace Go.Eng
open Go Go.RowKit
def A08 (P:Program) (g:TypeId→Value→Value→Option Bool) (xs ys:Array Value):List Field→Option Bool
 | []=>some true
 | f::fs =>
  if f.name ≠ "_" then
   match pureSem P (part f.type xs f.offset),pureSem P (part f.type ys f.offset) with
   | some a,some b=>(g f.type a b).bind fun p=>(A08 P g xs ys fs).bind fun q=>some (p&&q)
   | _,_=>none
  else A08 P g xs ys fs
def A47 (P:Program) (g:TypeId→Value→Value→Option Bool) (e:TypeId) (n:Nat) (xs ys:Array Value):List Nat→Option Bool
 | []=>some true
 | i::is =>
  match pureSem P (part e xs (i*n)),pureSem P (part e ys (i*n)) with
  | some a,some b=>(g e a b).bind fun p=>(A47 P g e n xs ys is).bind fun q=>some (p&&q)
  | _,_=>none
def eqB (P:Program):Nat→TypeId→Value→Value→Option Bool
 | 0,_,_,_=>none
 | d+1,t,x,y =>
  match P.underlying t,x,y with
  | some .bool,.bool a,.bool b=>some (a==b)
  | some (.int _),.int k a,.int k' b=>if k=k' then some (a==b) else none
  | some .string,.string a,.string b=>some (a==b)
  | some (.struct fs),.agg xs,.agg ys=>bif P.stoodInHeld t then none else A08 P (eqB P d) xs ys fs.toList
  | some (.array n e),.agg xs,.agg ys=>(pureSem P (sizeOf e)).bind fun z=>A47 P (eqB P d) e z xs ys (List.range' 0 n)
  | _,_,_=>none
variable {P:Program}
theorem A09 (g:TypeId→Value→Value→Option Bool) (d:Nat) (hg:∀t x y b,g t x y=some b→∀w,(Op.equalIn d t x y).run P w=.ok b w) (xs ys:Array Value) :
  ∀(fs:List Field) (b:Bool),A08 P g xs ys fs=some b→∀w,(Op.eqFields d xs ys fs).run P w=.ok b w:=by
 intro fs
 induction fs with
 | nil=>intro b h w;cases h;rfl
 | cons f fs ih =>
  intro b h w;unfold A08 at h;unfold Op.eqFields
  split at h
  ·rename_i hn
   rw [if_pos hn]
   split at h
   ·rename_i a c ha hc
    obtain ⟨p,hp,h⟩:=Option.bind_eq_some_iff.1 h;obtain ⟨q,hq,h⟩:=Option.bind_eq_some_iff.1 h
    cases h
    simp only [Sem.run_bind,B3 _ _ ha,B3 _ _ hc,Result.andThen_ok,hg _ _ _ _ hp]
    cases p
    ·simp
    ·simp only [Bool.not_true,Bool.false_eq_true,if_false,Bool.true_and];exact ih q hq w
   ·cases h
  ·rename_i hn
   rw [if_neg hn];exact ih b h w
theorem S0:∀(d:Nat) (t:TypeId) (x y:Value) (b:Bool),eqB P d t x y=some b→∀w,(Op.equalIn d t x y).run P w=.ok b w:=by
 intro d
 induction d with
 | zero=>intro t x y b h;cases h
 | succ d ih =>
  intro t x y b h w;unfold eqB at h
  split at h
  ·rename_i hu;cases h;simp [Op.equalIn,run_underlying hu]
  ·rename_i hu
   split at h
   ·rename_i hk;cases h;subst hk;simp [Op.equalIn,run_underlying hu]
   ·cases h
  ·rename_i hu;cases h;simp [Op.equalIn,run_underlying hu]
  ·rename_i fs xs ys hu
   cases hs:P.stoodInHeld t with
   | true=>rw [hs] at h;cases h
   | false =>
    rw [hs] at h;have hf:P.fieldsOf t=fs:=by unfold Program.fieldsOf;rw [hu]
    rw [run_equalIn_struct w d t xs ys (by rw [hf];exact hu) hs,hf];exact A09 _ d ih xs ys _ _ h w
  ·rename_i n e xs ys hu
   replace h:=Option.bind_eq_some_iff.1 h;obtain ⟨z,hz,h⟩:=h;simp only [Op.equalIn,Sem.run_bind,run_underlying hu,Result.andThen_ok,B3 _ _ hz,Std.Legacy.Range.forIn_eq_forIn_range',Std.Legacy.Range.size,Nat.sub_zero,Nat.add_sub_cancel,Nat.div_one];generalize List.range' 0 n=is at h ⊢
   clear hu
   induction is generalizing b with
   | nil=>cases h;simp
   | cons i is ih2 =>
    unfold A47 at h
    split at h
    ·rename_i a c ha hc
     obtain ⟨p,hp,h⟩:=Option.bind_eq_some_iff.1 h;obtain ⟨q,hq,h⟩:=Option.bind_eq_some_iff.1 h
     cases h
     simp only [List.forIn_cons,Sem.run_bind,B3 _ _ ha,B3 _ _ hc,Result.andThen_ok,ih _ _ _ _ hp]
     cases p
     ·simp
     ·simp only [Bool.not_true,Bool.false_eq_true,if_false,Bool.true_and,Sem.run_pure,Result.andThen_ok];exact ih2 q hq
    ·cases h
  ·cases h
section
variable {T:World→World→Prop} {D:World→Prop} {cs:List Cd} {t:TypeId} {xs ys:Array Value} {b:Bool}
theorem W6 (hg:P.eqGuardType P.depth t=false) (h:eqB P 10000 t (.agg xs) (.agg ys)=some b):Ob.ok P T D (.run cs (eqS .eql t xs ys) (.bool b)):=by
 intro _ w _;simp only [eqS,Sem.run_bind,run_eqGuard_agg w .eql t _ _ xs ys hg,Result.andThen_ok,run_eql_struct,S0 _ _ _ _ _ h]
theorem A3n (hg:P.eqGuardType P.depth t=false) (h:eqB P 10000 t (.agg xs) (.agg ys)=some b):Ob.ok P T D (.run cs (eqS .neq t xs ys) (.bool (!b))):=by
 intro _ w _;simp only [eqS,Sem.run_bind,run_eqGuard_agg w .neq t _ _ xs ys hg,Result.andThen_ok,run_neq_struct,S0 _ _ _ _ _ h]
end
theorem ArrM.none_nil {α:Type} {μ:Frz} {sz cap:Nat} {f:α→List Value} {l:List α} {w:World} (h:ArrM μ sz f none cap l) (hm:FrzAt μ w):l=[]:=by
 obtain ⟨_,ad',cap',e,_,_,_,hn⟩:=h w hm
 cases e
 by_cases hl:0<l.length
 ·obtain ⟨a,ha,_⟩:=hn hl
  cases ha
 ·exact List.length_eq_zero_iff.1 (by omega)
section
variable {P:Program} {r:Option Nat} {ops:Array Oper} {K:Act→World→Prop} {N k:Nat} {ds:List Deferred} {M:List (Nat×Value)} {a:Act} {w w0:World} {H:List Res} {β:Type} {e sz:Nat}
end
end Go.Eng
namespace Go.Eng
open Go Go.RowKit Go.Proofs Go.Sort Go.Shelf
section
variable {α:Type} [Inhabited α]
def Tv (cf:α→α→Int) (l:List α):List α:=(pdq (ltOf cf) l.toArray 0 l.length (Lib.bitLen l.length) true true).toList
theorem Kz (cf:α→α→Int) (hO:SWO (ltOf cf)) (l:List α):(Tv cf l).length=l.length∧(Tv cf l).Perm l∧(Tv cf l).Pairwise (fun x y=>ltOf cf y x=false):=by
 have h:=pdq_sorts (ltOf cf) hO l.toArray 0 l.toArray.size (Lib.bitLen l.toArray.size) true true (Nat.zero_le _) (Nat.le_refl _) (Or.inl rfl);have e:l.toArray.size=l.length:=by simp
 rw [e] at h;obtain ⟨⟨h1,_,h3⟩,h4⟩:=h;unfold Tv;generalize pdq (ltOf cf) l.toArray 0 l.length (Lib.bitLen l.length) true true=d at *;have hd:d.size=l.length:=by simpa using h1
 refine ⟨by simpa using hd,?_,?_⟩
 ·have e1:(d.extract 0 l.length).toList=d.toList:=by rw [←hd];simp
  have e2:(l.toArray.extract 0 l.length).toList=l:=by simp
  rw [e1,e2] at h3;exact h3
 ·rw [List.pairwise_iff_getElem];intro i j hi hj hij;have hi':i<d.size:=by simpa using hi
  have hj':j<d.size:=by simpa using hj
  have:=h4 i j (Nat.zero_le _) hij (by omega);rw [getElem!_pos d i hi',getElem!_pos d j hj'] at this
  simpa using this
end
section
variable {α:Type} [Inhabited α] {enc:α→List Value} {k b n cap e:Nat} {l:List α} {w:World}
theorem Sj (hk:∀x,(enc x).length=k) (h0:0<k) (d:Array α):(flatK enc k d).toList=d.toList.flatMap enc:=by
 apply List.ext_getElem?;intro j
 by_cases hj:j<d.size*k
 ·have hd:j/k<d.size:=Nat.div_lt_of_lt_mul (by rwa [Nat.mul_comm]);have hm:=Nat.mod_lt j h0;have e1:(flatK enc k d).toList[j]? = some (flatK enc k d)[j]!:=by
   rw [Array.getElem?_toList,getElem!_pos (flatK enc k d) j (by simpa using hj),Array.getElem?_eq_getElem (by simpa using hj)]
  rw [e1,get_flatK enc k d j hj];have hj2:j=j/k*k+j%k:=by rw [Nat.mul_comm];exact (Nat.div_add_mod j k).symm
  have hx:d.toList[j/k]? = some d[j/k]!:=by
   rw [Array.getElem?_toList,getElem!_pos d (j/k) hd,Array.getElem?_eq_getElem hd]
  conv=>rhs;rw [hj2]
  rw [Mx hk d.toList _ _ _ hx hm];have hlt:j%k<(enc d[j/k]!).length:=by rw [hk];exact hm
  rw [getElem!_pos (enc d[j/k]!) (j%k) hlt,List.getElem?_eq_getElem hlt]
 ·rw [List.getElem?_eq_none (by simpa using Nat.le_of_not_lt hj),List.getElem?_eq_none];rw [D3 hk]
  simpa using Nat.le_of_not_lt hj
theorem Yt (hk:∀x,(enc x).length=k) (h0:0<k) (h:(arr e k enc (some ⟨b,0,none⟩) n cap l).holds w):HoldsK enc k w b 0 l.toArray∧b<w.heap.size:=by
 obtain ⟨hn,hx,h⟩:=h;rcases h with ⟨h,_⟩|⟨g,cap',cur,hv,_,hg,hnc,hcm,hcs,hct⟩
 ·cases h
 ·cases hv
  refine ⟨?_,(Array.getElem?_eq_some_iff.1 hg).1⟩;intro j hj;simp only [size_flatK,List.size_toArray] at hj;have hfl:(flatK enc k l.toArray).toList=l.flatMap enc:=Sj hk h0 _;have hjn:j<n*k:=by rw [←hn];exact hj
  have hcur:j<cur.size:=by rw [hcs];exact Nat.lt_of_lt_of_le hjn (Nat.mul_le_mul_right k hnc)
  have e1:cur[j]? = some (flatK enc k l.toArray)[j]!:=by
   have h1:(cur.toList.take (n*k))[j]? = cur.toList[j]?:=List.getElem?_take_of_lt hjn;rw [hct,←hfl] at h1;rw [←Array.getElem?_toList,←h1,Array.getElem?_toList,getElem!_pos (flatK enc k l.toArray) j (by simpa using hj),Array.getElem?_eq_getElem (by simpa using hj)]
  rw [Nat.zero_add];constructor
  ·simp [World.cell?,hg,e1]
  ·simp [World.frozen?,hg]
theorem V2 (hk:∀x,(enc x).length=k) (h0:0<k) (h:(arr e k enc (some ⟨b,0,none⟩) n cap l).holds w) (d':Array α) (hd:d'.size=n) (m:Nat) (os:Array Obj) :
  (arr e k enc (some ⟨b,0,none⟩) n cap d'.toList).holds (sortWorldK enc k w b 0 m d' os):=by
 obtain ⟨hn,hx,h⟩:=h;rcases h with ⟨h,_⟩|⟨g,cap',cur,hv,hb0,hg,hnc,hcm,hcs,hct⟩
 ·cases h
 ·cases hv
  refine ⟨by simpa using hd,by rw [D3 hk];simp [hd],.inr ⟨b,cap,putCells id 0 (flatK enc k d') cur,rfl,hb0,?_,hnc,hcm,by simp [putCells,hcs],?_⟩⟩
  ·have hbl:=(Array.getElem?_eq_some_iff.1 hg).1;show ((w.heap.modify b (onCells (putCells id 0 (flatK enc k d'))))++os)[b]? = _;rw [Array.getElem?_append_left (by simpa using hbl),Array.getElem?_modify,if_pos rfl,hg];rfl
  ·rw [←Sj hk h0];apply List.ext_getElem?;intro j
   by_cases hj:j<n*k
   ·have hcur:j<cur.size:=by rw [hcs];exact Nat.lt_of_lt_of_le hj (Nat.mul_le_mul_right k hnc)
    rw [List.getElem?_take_of_lt hj];have hF:j<(flatK enc k d').size:=by simp [hd];exact hj
    simp only [putCells,Array.getElem?_toList,Array.getElem?_mapIdx,Array.getElem?_eq_getElem hcur,Option.map_some];rw [if_pos ⟨Nat.zero_le _,by omega⟩,Array.getElem?_eq_getElem hF,Nat.sub_zero,getElem!_pos (flatK enc k d') j hF];rfl
   ·rw [List.getElem?_eq_none (by simp;omega),List.getElem?_eq_none (by simp [hd];omega)]
theorem Za {w0:World} {H:List Res} {i:Nat} {l:List α} (hk:∀x,(enc x).length=k) (h0:0<k) (hS:St w0 H w) (hi:H[i]? = some (arr e k enc (some ⟨b,0,none⟩) n cap l)) (d':Array α) (hd:d'.size=n) (m:Nat) (os:Array Obj) :
  St w0 (H.set i (arr e k enc (some ⟨b,0,none⟩) n cap d'.toList)) (sortWorldK enc k w b 0 m d' os):=by
 have hh:=hS.holds _ (List.mem_of_getElem? hi);refine hS.upd hi rfl rfl rfl ?_ ?_ (V2 hk h0 hh d' hd m os) (fun k hk=>.inl hk)
 ·show w.heap.size≤((w.heap.modify b (onCells (putCells id 0 (flatK enc k d'))))++os).size;simp
 ·intro j hj hf;have hne:b≠j:=fun h=>hf (by subst h;rfl);show ((w.heap.modify b (onCells (putCells id 0 (flatK enc k d'))))++os)[j]? = _;rw [Array.getElem?_append_left (by simpa using hj),Array.getElem?_modify,if_neg hne]
end
end Go.Eng
namespace Go.Eng
open Go Go.RowKit
set_option linter.unusedVariables false
def T4 (α:Type) (n:Nat):Type:={l:List α // l.length=n}
instance {α:Type} {n:Nat} [DecidableEq α]:DecidableEq (T4 α n):=fun a b=>if h:a.1=b.1 then isTrue (Subtype.ext h) else isFalse (fun e=>h (by rw [e]))
instance {α:Type} {n:Nat} [Inhabited α]:Inhabited (T4 α n):=⟨⟨List.replicate n default,List.length_replicate⟩⟩
section
variable {α:Type} {n:Nat} (f:α→Value)
end
section
variable {P:Program} {T:World→World→Prop} {D:World→Prop} {cs:List Cd} {α:Type} {n:Nat} {f:α→Value} {b:Nat} {tt:TypeId} {x:T4 α n} {i:Int} {u:α}
end
section
variable {P:Program} {r:Option Nat} {ops:Array Oper} {K:Act→World→Prop} {N k:Nat} {ds:List Deferred} {M:List (Nat×Value)} {a:Act} {w w0:World} {H:List Res} {α:Type} {n:Nat} {f:α→Value} {x y:T4 α n} {j:Int} {u:α}
end
section
variable {P:Program} {T:World→World→Prop} {D:World→Prop} {cs:List Cd} {n:Nat} {t e:TypeId} {x y:T4 Bool n}
end
end Go.Eng
namespace Go.Eng
open Go Go.RowKit
set_option linter.unusedVariables false
abbrev Hd:=Option Addr×Nat×Nat
section
variable {w w0:World} {H Rs:List Res}
end
section
variable {α β:Type} {e sz:Nat} {f:α→List Value} {hd:List Hd} {xss:List (List α)} {w w0:World} {H:List Res} {i:Nat} {h:Hd} {x:List α}
end
def NestOk {α β:Type} (S:α→β→Prop) (hd:List Hd) (css:List (List α)) (L:List (List β)):Prop:=All2 (fun (h:Hd) l=>h.2.1=l.length) hd L∧All2 (All2 S) css L
section
variable {α β:Type} {S:α→β→Prop} {hd:List Hd} {css:List (List α)} {L L3:List (List β)} {i:Int} {u l3:List β}
theorem NestOk.mono {R:Rel β} {μ ν:Frz} {css:List (List (List Value))} (hR:R.Mono) (hle:μ.le ν) (h:NestOk (R μ) hd css L):NestOk (R ν) hd css L :=
 ⟨h.1,h.2.imp fun _ _ h=>All2.mono hR hle h⟩
end
section
variable {P:Program} {r:Option Nat} {ops:Array Oper} {K:Act→World→Prop} {N:Nat} {ds:List Deferred} {M:List (Nat×Value)} {a:Act} {w0 w:World} {k:Nat} {H:List Res} {α β:Type} {e sz n cap:Nat} {f:α→List Value} {ad:Option Addr} {c:List α} {l l3:List β} {hd:List Hd} {css:List (List α)} {p:Nat}
end
end Go.Eng
namespace Go.Eng
open Go Go.RowKit
set_option linter.unusedVariables false
set_option maxRecDepth 10000
section
variable {κ ν:Type} [DecidableEq κ]
def ixM:List (κ×ν)→κ→Option Nat
 | [],_=>none
 | p::B,x=>if x=p.1 then some 0 else (ixM B x).map (·+1)
def lkM:List (κ×ν)→κ→Option ν
 | [],_=>none
 | p::B,x=>if x=p.1 then some p.2 else lkM B x
def upM:List (κ×ν)→κ→ν→List (κ×ν)
 | [],x,v=>[(x,v)]
 | p::B,x,v=>if x=p.1 then (x,v)::B else p::upM B x v
end
def Se {κ ν:Type} (kf:κ→Value) (vf:ν→Value) (es:List MapEntry) (B:List (κ×ν)):Prop:=All2 (fun (e:MapEntry) (p:κ×ν)=>e.key=kf p.1∧e.val=vf p.2) es B
def ixL {κ:Type} [DecidableEq κ]:List κ→κ→Option Nat
 | [],_=>none
 | p::B,x=>if x=p then some 0 else (ixL B x).map (·+1)
structure KeyOk (P:Program) {κ:Type} [DecidableEq κ] (kt:TypeId) (kf:κ→Value):Prop where
 ck:∀em x,pureSem P (Instr.checkKey em 10000 kt (kf x))=some ()
 bits:∀x,Instr.sameBits 10000 (kf x) (kf x)=true
 find:∀(x:κ) (es:List MapEntry) (ks:List κ),es.map (·.key)=ks.map kf→∀w,(Instr.findKey kt (kf x) es).run P w=.ok ((ixL ks x).bind fun i=>(es[i]?).map fun e=>(i,e.val)) w
structure KeyAsk (P:Program) {κ:Type} [DecidableEq κ] (kt:TypeId) (kf:κ→Value):Prop where
 ck:∀em x,pureSem P (Instr.checkKey em 10000 kt (kf x))=some ()
 bits:∀x,Instr.sameBits 10000 (kf x) (kf x)=true
 eq:∀x y w,(Op.equal kt (kf x) (kf y)).run P w=.ok (decide (x=y)) w
 now:∀x y,(pureSem P (underlying kt)).bind (fun d=>Instr.sameNow d (kf x) (kf y))=none
 und:(pureSem P (underlying kt)).isSome=true
structure KeyNow (P:Program) {κ:Type} [DecidableEq κ] (kt:TypeId) (kf:κ→Value):Prop where
 ck:∀em x,pureSem P (Instr.checkKey em 10000 kt (kf x))=some ()
 bits:∀x,Instr.sameBits 10000 (kf x) (kf x)=true
 now:∀x y,(pureSem P (underlying kt)).bind (fun d=>Instr.sameNow d (kf x) (kf y))=some (decide (x=y))
 und:(pureSem P (underlying kt)).isSome=true
section
variable {P:Program} {κ ν:Type} [DecidableEq κ] {kt:TypeId} {kf:κ→Value} {vf:ν→Value}
theorem Yl (hk:KeyAsk P kt kf) (x:κ) (w:World):∀{es:List MapEntry} {ks:List κ} (i:Nat),es.map (·.key)=ks.map kf→(Instr.findAsking kt (kf x) es i).run P w=.ok ((ixL ks x).bind fun j=>(es[j]?).map fun e=>(j+i,e.val)) w:=by
 intro es
 induction es with
 | nil =>
  intro ks i h
  cases ks with
  | nil=>rfl
  | cons _ _=>cases h
 | cons e es ih =>
  intro ks i h
  cases ks with
  | nil=>cases h
  | cons p ks =>
   simp only [List.map_cons,List.cons.injEq] at h;have hq:=hk.eq x p w;rw [←h.1] at hq;unfold Instr.findAsking;simp only [Sem.run_bind,hq,Result.andThen_ok];unfold ixL
   by_cases hx:x=p
   ·rw [decide_eq_true hx,if_pos hx];simp
   ·rw [decide_eq_false hx,if_neg hx];have:=ih (i+1) h.2;simp only [Bool.false_eq_true,if_false];rw [this]
    cases ixL ks x with
    | none=>rfl
    | some j=>simp [Nat.add_assoc,Nat.add_comm 1 i]
theorem Wy {d:TypeDesc} (hn:∀x y:κ,Instr.sameNow d (kf x) (kf y)=some (decide (x=y))) (x:κ):∀{es:List MapEntry} {ks:List κ} (i:Nat),es.map (·.key)=ks.map kf→Instr.findNow d (kf x) es i=some ((ixL ks x).bind fun j=>(es[j]?).map fun e=>(j+i,e.val)):=by
 intro es
 induction es with
 | nil =>
  intro ks i h
  cases ks with
  | nil=>rfl
  | cons _ _=>cases h
 | cons e es ih =>
  intro ks i h
  cases ks with
  | nil=>cases h
  | cons p ks =>
   simp only [List.map_cons,List.cons.injEq] at h;have hq:=hn x p;rw [←h.1] at hq;unfold Instr.findNow;rw [hq];unfold ixL
   by_cases hx:x=p
   ·rw [decide_eq_true hx,if_pos hx];simp
   ·rw [decide_eq_false hx,if_neg hx];have:=ih (i+1) h.2;simp only [];rw [this]
    cases ixL ks x with
    | none=>rfl
    | some j=>simp [Nat.add_assoc,Nat.add_comm 1 i]
theorem KeyAsk.ok (hk:KeyAsk P kt kf):KeyOk P kt kf:=by
 refine ⟨hk.ck,hk.bits,fun x es ks h=>?_⟩;intro w;unfold Instr.findKey;obtain ⟨d,hd⟩:=Option.isSome_iff_exists.1 hk.und;have hdr:=B3 _ _ hd w;simp only [Sem.run_bind,hdr,Result.andThen_ok]
 cases es with
 | nil =>
  cases ks with
  | nil=>rfl
  | cons _ _=>cases h
 | cons e es =>
  cases ks with
  | nil=>cases h
  | cons p ks =>
   have hn:=hk.now x p;have h1:e.key=kf p:=by simp only [List.map_cons,List.cons.injEq] at h;exact h.1
   rw [hd,Option.bind_some,←h1] at hn;have:Instr.findNow d (kf x) (e::es) 0=none:=by
    unfold Instr.findNow;rw [hn]
   rw [this];exact Yl hk x w 0 h
theorem KeyNow.ok (hk:KeyNow P kt kf):KeyOk P kt kf:=by
 refine ⟨hk.ck,hk.bits,fun x es ks h=>?_⟩;intro w;unfold Instr.findKey;obtain ⟨d,hd⟩:=Option.isSome_iff_exists.1 hk.und;have hdr:=B3 _ _ hd w;simp only [Sem.run_bind,hdr,Result.andThen_ok];have:=Wy (kf:=kf) (d:=d) (fun x y=>by have:=hk.now x y;rw [hd] at this;exact this) x 0 h;rw [this];rfl
theorem A07 {es:List MapEntry} {B:List (κ×ν)} (h:Se kf vf es B):es.map (·.key)=(B.map (·.1)).map kf:=by
 induction h with
 | nil=>rfl
 | cons h _ ih=>simp only [List.map_cons,ih,h.1]
theorem A2b (B:List (κ×ν)) (x:κ):ixL (B.map (·.1)) x=ixM B x:=by
 induction B with
 | nil=>rfl
 | cons p B ih=>simp only [List.map_cons,ixL,ixM,ih]
theorem Yc {B:List (κ×ν)} {x:κ}:lkM B x=(ixM B x).bind fun i=>(B[i]?).map (·.2):=by
 induction B with
 | nil=>rfl
 | cons p B ih =>
  unfold lkM ixM
  by_cases hx:x=p.1
  ·simp [hx]
  ·rw [if_neg hx,if_neg hx,ih]
   cases ixM B x<;>simp
theorem Rz {es:List MapEntry} {B:List (κ×ν)} (h:Se kf vf es B) {i:Nat} {p:κ×ν} (hp:B[i]? = some p):∃e,es[i]? = some e∧e.key=kf p.1∧e.val=vf p.2:=by
 induction h generalizing i with
 | nil=>simp at hp
 | cons h _ ih =>
  cases i with
  | zero=>simp at hp;subst hp;exact ⟨_,rfl,h⟩
  | succ i=>obtain ⟨e,h1,h2⟩:=ih (by simpa using hp);exact ⟨e,by simpa using h1,h2⟩
theorem Ug (hk:KeyOk P kt kf) (x:κ) {es:List MapEntry} {B:List (κ×ν)} (h:Se kf vf es B):∃r,(∀w,(Instr.findKey kt (kf x) es).run P w=.ok r w)∧r.map (·.1)=ixM B x∧(∀p,r=some p→∃v,lkM B x=some v∧p.2=vf v)∧(r=none→lkM B x=none):=by
 have h1:=hk.find x es _ (A07 h);rw [A2b] at h1;refine ⟨_,h1,?_⟩;rw [Yc]
 cases hi:ixM B x with
 | none=>simp
 | some i =>
  have hlt:∃p,B[i]? = some p:=by
   clear h1 h
   induction B generalizing i with
   | nil=>cases hi
   | cons q B ih =>
    unfold ixM at hi
    by_cases hx:x=q.1
    ·rw [if_pos hx] at hi;cases hi;exact ⟨q,rfl⟩
    ·rw [if_neg hx] at hi;obtain ⟨j,hj,rfl⟩:=Option.map_eq_some_iff.1 hi;obtain ⟨p,hp⟩:=ih j hj;exact ⟨p,by simpa using hp⟩
  obtain ⟨p,hp⟩:=hlt;obtain ⟨e,e1,e2,e3⟩:=Rz h hp;simp only [Option.bind_some,e1,hp,Option.map_some];exact ⟨trivial,fun q hq=>by cases hq;exact ⟨p.2,rfl,e3⟩,fun h=>by cases h⟩
theorem A0h {B:List (κ×ν)} {x:κ} {i:Nat} (h:ixM B x=some i):i<B.length∧∃p,B[i]? = some p∧p.1=x∧lkM B x=some p.2:=by
 induction B generalizing i with
 | nil=>cases h
 | cons p B ih =>
  unfold ixM at h
  by_cases hx:x=p.1
  ·rw [if_pos hx] at h
   cases h
   exact ⟨by simp,p,rfl,hx.symm,by unfold lkM;rw [if_pos hx]⟩
  ·rw [if_neg hx] at h;obtain ⟨j,hj,rfl⟩:=Option.map_eq_some_iff.1 h;obtain ⟨h1,q,h2,h3,h4⟩:=ih hj;exact ⟨by simp;omega,q,by simpa using h2,h3,by unfold lkM;rw [if_neg hx];exact h4⟩
theorem A36 {B:List (κ×ν)} {x:κ} {i:Nat} {v:ν} (h:ixM B x=some i):upM B x v=B.set i (x,v):=by
 induction B generalizing i with
 | nil=>cases h
 | cons p B ih =>
  unfold ixM at h;unfold upM
  by_cases hx:x=p.1
  ·rw [if_pos hx] at h ⊢
   cases h;rfl
  ·rw [if_neg hx] at h ⊢;obtain ⟨j,hj,rfl⟩:=Option.map_eq_some_iff.1 h;rw [ih hj];rfl
theorem A35 {B:List (κ×ν)} {x:κ} {v:ν} (h:ixM B x=none):upM B x v=B++[(x,v)]:=by
 induction B with
 | nil=>rfl
 | cons p B ih =>
  unfold ixM at h;unfold upM
  by_cases hx:x=p.1
  ·rw [if_pos hx] at h;cases h
  ·rw [if_neg hx] at h ⊢;rw [ih (Option.map_eq_none_iff.1 h)];rfl
end
def A0 {κ ν:Type} (kf:κ→Value) (vf:ν→Value) (m:Nat) (B:List (κ×ν)):Res where
 foot:=fun k=>k=m
 holds:=fun w=>∃(es:List MapEntry) (clock:Nat),w.heap[m]? = some (.map es.toArray clock)∧Se kf vf es B∧(∀e∈es,e.born<clock)∧es.Pairwise (fun a b=>a.born≠b.born)
 loc:=fun w w' h hb=>by
  obtain ⟨es,clock,h1,h2⟩:=hb;exact ⟨es,clock,(h m rfl).trans h1,h2⟩
 lt:=fun w k hb hk=>by
  subst hk;obtain ⟨es,clock,h1,_⟩:=hb;exact (Array.getElem?_eq_some_iff.1 h1).1
def effSemM (ρ:Operand→Value) (op:Op) (ty:TypeId):Option (Sem Value) :=
 match op with
 | .makeMap t r=>some (Instr.makeMap t (r.map ρ))
 | .lookup t x ix ok=>some (Instr.lookup t (ρ x) (ρ ix) ok)
 | .mapEntry t m k=>some (Instr.mapEntry t (ρ m) (ρ k))
 | .call { callee:=.builtin .delete,args,argTypes }=>some (Builtin.delete_ argTypes ty (args.map ρ))
 | _=>none
theorem Vj {P:Program} {ρ:Operand→Value} {o:Oper} {s:Sem Value} {v:Value} {w w':World} (h:effSemM ρ o.op o.type=some s) (hr:s.run P w=.ok v w'):(execOp ρ o).run P w=.ok (.value v) w':=by
 unfold effSemM at h;unfold execOp
 split at h<;>rename_i hop<;>simp only [Option.some.injEq,reduceCtorEq] at h<;>(try subst h)<;>rw [hop]<;>simp [hr,resolve,invoke,builtin]
def uniSemM (ρ:Operand→Value) (op:Op):Option (Sem Unit) :=
 match op with
 | .mapUpdate t m k x=>some (Instr.mapUpdate t (ρ m) (ρ k) (ρ x))
 | .entryStore t m s x=>some (Instr.entryStore t (ρ m) (ρ s) (ρ x))
 | _=>none
theorem Wp {P:Program} {ρ:Operand→Value} {o:Oper} {s:Sem Unit} {w w':World} (h:uniSemM ρ o.op=some s) (hr:s.run P w=.ok () w'):(execOp ρ o).run P w=.ok .skip w':=by
 unfold uniSemM at h;unfold execOp
 split at h<;>rename_i hop<;>simp only [Option.some.injEq,reduceCtorEq] at h<;>(try subst h)<;>rw [hop]<;>simp [hr]
structure EffM (ops:Array Oper) (k:Nat) (M:List (Nat×Value)) (s:Sem Value):Prop where
 eq:((plainAt ops k M).bind fun o=>effSemM (rhoE (ofM M)) o.op o.type)=some s
structure UniM (ops:Array Oper) (k:Nat) (M:List (Nat×Value)) (s:Sem Unit):Prop where
 eq:((plainAt ops k M).bind fun o=>uniSemM (rhoE (ofM M)) o.op)=some s
section
variable {P:Program} {r:Option Nat} {ops:Array Oper} {K:Act→World→Prop} {N:Nat} {ds:List Deferred} {M M':List (Nat×Value)} {a:Act} {w0 w w':World} {k:Nat} {H:List Res}
theorem A05 {s:Sem Value} {v:Value} (hF:Fr N ds M a) (hdst:An ops N=true) (hs:EffM ops k M s) (hr:s.run P w=.ok v w')
  (hM:NextM ops k M v M') (next:∀a',Fr N ds M' a'→K a' w'):SK P r ops k K a w:=by
 have hs:=hs.eq
 cases ho:plainAt ops k M with
 | none=>rw [ho] at hs;simp at hs
 | some o =>
  rw [ho] at hs;exact Wb hF hdst ho (Vj hs hr) hM next
theorem A6n {s:Sem Unit} (hF:Fr N ds M a) (hdst:An ops N=true) (hs:UniM ops k M s) (hr:s.run P w=.ok () w')
  (hM:NextM ops k M undef M') (next:∀a',Fr N ds M' a'→K a' w'):SK P r ops k K a w:=by
 have hs:=hs.eq
 cases ho:plainAt ops k M with
 | none=>rw [ho] at hs;simp at hs
 | some o =>
  rw [ho] at hs;exact A3p hF hdst ho (Wp hs hr) hM next
variable {κ ν:Type} [DecidableEq κ] {kt e t:TypeId} {kf:κ→Value} {vf:ν→Value} {m:Nat} {B:List (κ×ν)} {x:κ} {v d:ν}
def Qt (P:Program) (t kt e:TypeId):Bool:=match P.underlying t with
 | some (.map a b)=>Nat.beq a kt&&Nat.beq b e
 | _=>false
theorem Jb (h:Qt P t kt e=true):P.underlying t=some (.map kt e):=by
 unfold Qt at h
 split at h
 ·rename_i a b hu
  rw [Bool.and_eq_true] at h;rw [hu,Nat.eq_of_beq_eq_true h.1,Nat.eq_of_beq_eq_true h.2]
 ·cases h
theorem Mz (κ ν:Type) (kf:κ→Value) (vf:ν→Value) (M':Nat→List (Nat×Value)) (hF:Fr N ds M a) (hS:St w0 H w) (hdst:An ops N=true) (hs:EffM ops k M (Instr.makeMap t none)) (hM:∀m,NextM ops k M (.map (some m)) (M' m))
  (next:∀m w' a',Fr N ds (M' m) a'→St w0 (A0 kf vf m ([]:List (κ×ν))::H) w'→K a' w'):SK P r ops k K a w:=by
 refine A05 hF hdst hs (v:=.map (some w.heap.size)) (w':=w.alloc (.map #[] 0)) ?_ (hM _) ?_
 ·have hn:(newObj (.map #[] 0)).run P w=.ok w.heap.size (w.alloc (.map #[] 0)):=rfl;simp [Instr.makeMap,hn]
 ·intro a' hF';refine next _ _ a' hF' (hS.push (Pf w _) ⟨[],0,World.alloc_heap_new w _,.nil,fun e he=>by simp at he,.nil⟩ (fun b hb=>by rw [show b=w.heap.size from hb];exact Nat.le_refl _))
theorem Mb (M':List (Nat×Value)) (i:Nat) (x:κ) (d:ν) (hk:KeyOk P kt kf) (hF:Fr N ds M a) (hS:St w0 H w) (hi:H[i]? = some (A0 kf vf m B)) (hdst:An ops N=true) (hs:EffM ops k M (Instr.lookup t (.map (some m)) (kf x) false)) (ht:Qt P t kt e=true)
  (hz:(P.info? e).bind (·.zero)=some (vf d)) (hM:NextM ops k M (vf ((lkM B x).getD d)) M') (next:∀a',Fr N ds M' a'→K a' w):SK P r ops k K a w:=by
 obtain ⟨es,clock,h1,h2,h3⟩:=hS.res hi;refine A05 hF hdst hs ?_ hM next
 obtain ⟨q,q1,q2,q3,q4⟩:=Ug hk x h2;have hq:=q1 w;have hc:=B3 _ _ (hk.ck es.isEmpty x) w;have hg:=MapKept.run_getObj_map (P:=P) h1
 cases q with
 | some p =>
  obtain ⟨v,e1,e2⟩:=q3 p rfl;obtain ⟨j,u⟩:=p;have e2:u=vf v:=e2;subst e2;rw [e1];simp [Instr.lookup,run_underlying (Jb ht),hg,hc,hq]
 | none =>
  have e1:=q4 rfl
  cases hii:P.info? e with
  | none=>rw [hii] at hz;simp at hz
  | some inf =>
   rw [hii] at hz;simp at hz;simp [Instr.lookup,run_underlying (Jb ht),hg,hc,hq,e1,zeroValue,typeInfo,hii,hz]
end
end Go.Eng
namespace Go.Eng
open Go Go.RowKit
set_option linter.unusedVariables false
section
variable {w w0:World} {H Rs Rs':List Res} {i:Nat} {R:Res}
end
section
variable {w w0:World} {H:List Res} {α β:Type} {eo e sz n cap q:Nat} {f:α→List Value} {ad:Option Addr} {hd hd':List Hd} {css css':List (List α)} {h:Hd} {c:List α}
end
section
variable {P:Program} {r:Option Nat} {ops:Array Oper} {K:Act→World→Prop} {N:Nat} {ds:List Deferred} {M:List (Nat×Value)} {a:Act} {w0 w:World} {k:Nat} {H:List Res} {α β:Type} {eo e sz n cap:Nat} {f:α→List Value} {ad:Option Addr} {c:List α} {l l3:List β} {hd hd2:List Hd} {css css2:List (List α)} {L L3:List (List β)} {S:α→β→Prop}
end
end Go.Eng
namespace Go.Eng
open Go Go.RowKit
set_option linter.unusedVariables false
set_option maxRecDepth 10000
section
variable {P:Program} {κ ν:Type} [DecidableEq κ] {kt:TypeId} {kf:κ→Value} {vf:ν→Value} {es:List MapEntry} {B:List (κ×ν)} {x:κ} {v:ν} {clock:Nat}
def Stp (es:List MapEntry) (clock:Nat):Prop:=(∀e∈es,e.born<clock)∧es.Pairwise (fun a b=>a.born≠b.born)
theorem A25 (h:Se kf vf es B) (i:Nat) (u:ν) (hx:∀p,B[i]? = some p→p.1=x):Se kf vf (es.modify i fun e=>{ e with key:=kf x,val:=vf v }) (B.modify i fun _=>(x,v)):=by
 induction h generalizing i with
 | nil=>simp;exact .nil
 | cons h h2 ih =>
  cases i with
  | zero=>simp only [List.modify_zero_cons];exact .cons ⟨rfl,rfl⟩ h2
  | succ i=>simp only [List.modify_succ_cons];exact .cons h (ih i fun p hp=>hx p (by simpa using hp))
theorem Xa {α:Type} {l:List α} {i:Nat} {y:α}:l.modify i (fun _=>y)=l.set i y:=by
 induction l generalizing i with
 | nil=>simp
 | cons a l ih=>cases i<;>simp [ih]
theorem A32 (h:Stp es clock) (i:Nat) (f:MapEntry→MapEntry) (hf:∀e,(f e).born=e.born):Stp (es.modify i f) clock:=by
 have hb:(es.modify i f).map (·.born)=es.map (·.born):=by
  clear h
  induction es generalizing i with
  | nil=>simp
  | cons e es ih=>cases i with
   | zero=>simp [hf]
   | succ i=>simp [ih]
 obtain ⟨h1,h2⟩:=h;have e1:∀(l:List MapEntry),(∀e∈l,e.born<clock)↔∀b∈l.map (·.born),b<clock:=fun l=>by simp
 have e2:∀(l:List MapEntry),l.Pairwise (fun a b=>a.born≠b.born)↔(l.map (·.born)).Pairwise (·≠·):=fun l=>by rw [List.pairwise_map]
 refine ⟨?_,?_⟩
 ·rw [e1,hb,←e1];exact h1
 ·rw [e2,hb,←e2];exact h2
theorem A1h (h:Stp es clock) (k w:Value):Stp (es++[{ key:=k,val:=w,born:=clock }]) (clock+1):=by
 refine ⟨fun e he=>?_,?_⟩
 ·rcases List.mem_append.1 he with he|he
  ·have:=h.1 e he;omega
  ·simp at he;subst he;exact Nat.lt_succ_self _
 ·refine List.pairwise_append.2 ⟨h.2,List.pairwise_singleton _ _,fun a ha b hb=>?_⟩;simp at hb;subst hb;have:=h.1 a ha;simp only;omega
theorem A24 (h:Se kf vf es B) {e:MapEntry} {p:κ×ν} (h1:e.key=kf p.1) (h2:e.val=vf p.2):Se kf vf (es++[e]) (B++[p]):=All2.app h (.cons ⟨h1,h2⟩ .nil)
theorem A2c {B:List (κ×ν)} {i:Nat} (h:ixM B x=some i):∀p,B[i]? = some p→p.1=x:=by
 obtain ⟨_,p,h1,h2,_⟩:=A0h h;intro q hq;rw [h1] at hq;cases hq;exact h2
variable {t e:TypeId} {m:Nat} {w:World}
theorem A6m (hb:∀x,Instr.sameBits 10000 (kf x) (kf x)=true) (w:World):(Instr.keyThatStays (kf x) (kf x)).run P w=.ok (kf x) w:=by
 simp [Instr.keyThatStays,hb x]
theorem A6h (o:Obj) (hb:w.heap[m]? = some (.map es.toArray clock)):(setObj m o).run P w=.ok () (w.putObj m o):=MapKept.run_setObj_map o hb
theorem A37 (hk:KeyOk P kt kf) (ht:Qt P t kt e=true) (hb:w.heap[m]? = some (.map es.toArray clock)) (h:Se kf vf es B) (hs:Stp es clock) (x:κ) (v:ν) :
  ∃es' clock',(Instr.mapUpdate t (.map (some m)) (kf x) (vf v)).run P w=.ok () (w.putObj m (.map es'.toArray clock'))∧Se kf vf es' (upM B x v)∧Stp es' clock':=by
 obtain ⟨q,q1,q2,q3,q4⟩:=Ug hk x h;have hq:=q1 w;have hc:=B3 _ _ (hk.ck false x) w;have hg:=MapKept.run_getObj_map (P:=P) hb
 cases q with
 | some p =>
  obtain ⟨j,u⟩:=p;have hj:ixM B x=some j:=q2.symm;obtain ⟨hlt,p,hp,hpx,hlk⟩:=A0h hj;obtain ⟨en,e1,e2,e3⟩:=Rz h hp;rw [hpx] at e2;have hst:=A6m (P:=P) (x:=x) hk.bits w;refine ⟨es.modify j fun e=>{ e with key:=kf x,val:=vf v },clock,?_,?_,A32 hs j _ fun _=>rfl⟩
  ·have hss:=A6h (P:=P) (.map (es.modify j fun e=>{ e with key:=kf x,val:=vf v }).toArray clock) hb;simp [Instr.mapUpdate,run_underlying (Jb ht),hg,hc,hq,e1,e2,hst,hss]
  ·rw [A36 hj,←Xa];exact A25 h j v (A2c hj)
 | none =>
  have hj:ixM B x=none:=q2.symm;refine ⟨es++[{ key:=kf x,val:=vf v,born:=clock }],clock+1,?_,?_,A1h hs _ _⟩
  ·have hss:=A6h (P:=P) (.map (es++[({ key:=kf x,val:=vf v,born:=clock }:MapEntry)]).toArray (clock+1)) hb;simp [Instr.mapUpdate,run_underlying (Jb ht),hg,hc,hq,hss]
  ·rw [A35 hj];exact A24 h rfl rfl
end
section
variable {P:Program} {r:Option Nat} {ops:Array Oper} {K:Act→World→Prop} {N:Nat} {ds:List Deferred} {M M':List (Nat×Value)} {a:Act} {w0 w w':World} {k:Nat} {H:List Res} {κ ν:Type} [DecidableEq κ] {kt e t:TypeId} {kf:κ→Value} {vf:ν→Value} {m:Nat} {B:List (κ×ν)} {x:κ} {v d:ν}
theorem St.putMap {R R':Res} {i:Nat} {o o':Obj} (hS:St w0 H w) (hi:H[i]? = some R) (ho:w.heap[m]? = some o) (hf:∀k,R.foot k↔k=m) (hR':R'.holds (w.putObj m o')) (hf':∀k,R'.foot k→k=m):St w0 (H.set i R') (w.putObj m o'):=by
 refine hS.upd hi rfl rfl rfl (by simp [World.putObj]) (fun k _ hk=>World.putObj_heap_other (fun e=>hk ((hf k).2 e))) hR' (fun k hk=>.inl ((hf k).2 (hf' k hk)))
theorem Zc (M':List (Nat×Value)) (i:Nat) (x:κ) (v:ν) (hk:KeyOk P kt kf) (hF:Fr N ds M a) (hS:St w0 H w) (hi:H[i]? = some (A0 kf vf m B)) (hdst:An ops N=true) (hs:UniM ops k M (Instr.mapUpdate t (.map (some m)) (kf x) (vf v))) (ht:Qt P t kt e=true)
  (hM:NextM ops k M undef M') (next:∀w' a',Fr N ds M' a'→St w0 (H.set i (A0 kf vf m (upM B x v))) w'→K a' w'):SK P r ops k K a w:=by
 obtain ⟨es,clock,h1,h2,h3⟩:=hS.res hi;obtain ⟨es',clock',g1,g2,g3⟩:=A37 (w:=w) hk ht h1 h2 h3 x v;refine A6n hF hdst hs g1 hM fun a' hF'=>next _ a' hF' (hS.putMap hi h1 (fun _=>Iff.rfl) ?_ fun _ h=>h)
 exact ⟨es',clock',World.putObj_heap_same (Array.getElem?_eq_some_iff.1 h1).1,g2,g3⟩
end
end Go.Eng
namespace Go.Eng
open Go Go.RowKit
set_option linter.unusedVariables false
def MNestOk {κ α β:Type} (S:α→β→Prop) (B:List (κ×Hd)) (css:List (List α)) (L:List (κ×List β)):Prop:=All2 (fun (h:κ×Hd) (p:κ×List β)=>h.1=p.1∧h.2.2.1=p.2.length) B L∧All2 (fun c (p:κ×List β)=>All2 S c p.2) css L
section
variable {κ α β:Type} [DecidableEq κ] {S:α→β→Prop} {B:List (κ×Hd)} {css:List (List α)} {L:List (κ×List β)} {x:κ} {i:Nat}
theorem MNestOk.mono {R:Rel β} {μ ν:Frz} {css:List (List (List Value))} (hR:R.Mono) (hle:μ.le ν) (h:MNestOk (R μ) B css L):MNestOk (R ν) B css L:=⟨h.1,h.2.imp fun _ _ h=>All2.mono hR hle h⟩
theorem MNestOk.ix (h:MNestOk S B css L) (x:κ):ixM B x=ixM L x:=by
 have h1:=h.1
 clear h
 induction h1 with
 | nil=>rfl
 | cons h _ ih=>simp only [ixM,h.1,ih]
theorem V8 {γ δ:Type} {R:γ→δ→Prop} {xs:List γ} {ys:List δ} (h:All2 R xs ys) {i:Nat} {y:δ} (hy:ys[i]? = some y):∃x,xs[i]? = some x∧R x y:=by
 induction h generalizing i with
 | nil=>simp at hy
 | cons h _ ih=>cases i with
  | zero=>simp at hy;subst hy;exact ⟨_,rfl,h⟩
  | succ i=>obtain ⟨x,h1,h2⟩:=ih (by simpa using hy);exact ⟨x,by simpa using h1,h2⟩
theorem MNestOk.at (h:MNestOk S B css L) (x:κ):(∃(i:Nat) (ad:Option Addr) (cap:Nat) (c:List α) (l:List β),ixM B x=some i∧B[i]? = some (x,(ad,l.length,cap))∧lkM B x=some (ad,l.length,cap)∧css[i]? = some c∧L[i]? = some (x,l)∧lkM L x=some l∧All2 S c l)∨(ixM B x=none∧ixM L x=none∧lkM B x=none∧lkM L x=none):=by
 have hx:=h.ix x
 cases hi:ixM L x with
 | none =>
  rw [hi] at hx;exact .inr ⟨hx,rfl,by rw [Yc,hx];rfl,by rw [Yc,hi];rfl⟩
 | some i =>
  rw [hi] at hx;obtain ⟨hlt,p,hp,hpx,hlk⟩:=A0h hi;obtain ⟨q,q1,q2,q3⟩:=V8 h.1 hp;obtain ⟨c,c1,c2⟩:=V8 h.2 hp;obtain ⟨k,l⟩:=p;obtain ⟨k',ad,n,cap⟩:=q;simp only at hpx q2 q3 c2;subst hpx q2 q3;exact .inl ⟨i,ad,cap,c,l,hx,q1,by rw [Yc,hx];simp [q1],c1,hp,hlk,c2⟩
end
section
variable {w w0:World} {H:List Res} {κ α β:Type} [DecidableEq κ] {e sz m i:Nat} {kf:κ→Value} {f:α→List Value} {B:List (κ×Hd)} {css:List (List α)} {h:κ×Hd} {c:List α}
end
section
variable {P:Program} {r:Option Nat} {ops:Array Oper} {K:Act→World→Prop} {N:Nat} {ds:List Deferred} {M M':List (Nat×Value)} {a:Act} {w0 w w':World} {k:Nat} {H:List Res} {κ α β:Type} [DecidableEq κ] {kt te t e sz:Nat} {kf:κ→Value} {f:α→List Value} {m:Nat} {B:List (κ×Hd)} {css:List (List α)} {L:List (κ×List β)} {x:κ} {S:α→β→Prop}
end
end Go.Eng
namespace Go.Eng
open Go Go.RowKit
set_option linter.unusedVariables false
theorem Ya (w:World) (o:Obj) (j:Nat) (h:j<w.heap.size):(w.alloc o).heap[j]? = w.heap[j]?:=by
 show (w.heap.push o)[j]? = _;rw [Array.getElem?_push,if_neg (Nat.ne_of_lt h)]
def arrT {α:Type} (e sz:Nat) (f:α→List Value) (ad:Option Addr) (n cap:Nat) (l:List α):Res where
 foot:=fun k=>∃off,ad=some ⟨k,off,none⟩
 holds:=fun w=>l.length=n∧(l.flatMap f).length=n*sz∧((ad=none∧n=0∧cap=0)∨∃g off cur fz,ad=some ⟨g,off,none⟩∧w.heap[g]? = some (.cells cur e fz)∧(fz=(0,0)∨cur.size≤fz.1)∧n≤cap∧cap≤maxLen∧off+cap*sz≤cur.size∧(cur.toList.drop off).take (n*sz)=l.flatMap f)
 loc:=fun w w' h hb=>by
  refine ⟨hb.1,hb.2.1,?_⟩;rcases hb.2.2 with hn|⟨g,off,cur,fz,rfl,hg,rest⟩
  ·exact .inl hn
  ·exact .inr ⟨g,off,cur,fz,rfl,(h g ⟨off,rfl⟩).trans hg,rest⟩
 lt:=fun w k hb hk=>by
  obtain ⟨off,rfl⟩:=hk;rcases hb.2.2 with ⟨hn,_⟩|⟨g,off',cur,fz,he,hg,_⟩
  ·cases hn
  ·cases he;exact (Array.getElem?_eq_some_iff.1 hg).1
section
variable {w w0:World} {H:List Res} {α:Type} {e sz n cap i:Nat} {f:α→List Value} {ad:Option Addr} {l l2:List α} {lo hi:Int}
theorem St.conv1 {R R':Res} (h:St w0 (R::H) w) (hR:R'.holds w) (hf:∀b,R'.foot b→R.foot b):St w0 (R'::H) w:=by
 refine ⟨h.ext,fun S hS=>?_,fun S hS b hb=>?_,?_⟩
 ·rcases List.mem_cons.1 hS with rfl|hS
  ·exact hR
  ·exact h.holds S (List.mem_cons_of_mem _ hS)
 ·rcases List.mem_cons.1 hS with rfl|hS
  ·exact h.low R (List.mem_cons_self ..) b (hf b hb)
  ·exact h.low S (List.mem_cons_of_mem _ hS) b hb
 ·have:=List.pairwise_cons.1 h.apart;exact List.pairwise_cons.2 ⟨fun S hS b h1 h2=>this.1 S hS b (hf b h1) h2,this.2⟩
theorem St.nilT (h:St w0 H w) (e sz:Nat) (f:α→List Value):St w0 (arrT e sz f none 0 0 ([]:List α)::H) w :=
 h.push (Ext.refl w) ⟨rfl,by simp,.inl ⟨rfl,rfl,rfl⟩⟩ (fun b hb=>by obtain ⟨_,h⟩:=hb;cases h)
theorem St.toT (h:St w0 (Go.Eng.arr e sz f ad n cap l::H) w):St w0 (arrT e sz f ad n cap l::H) w:=by
 have hb:=h.holds _ (List.mem_cons_self ..);refine h.conv1 ⟨hb.1,hb.2.1,?_⟩ ?_
 ·rcases hb.2.2 with ⟨h1,h2⟩|⟨g,cap',cur,h1,_,hg,hnc,hcm,hcs,htake⟩
  ·cases h1;exact .inl ⟨rfl,h2,rfl⟩
  ·cases h1
   refine .inr ⟨g,0,cur,_,rfl,hg,.inl rfl,hnc,hcm,by rw [hcs];omega,?_⟩;rw [List.drop_zero];exact htake
 ·rintro b ⟨off,rfl⟩;rcases hb.2.2 with ⟨h1,_⟩|⟨g,cap',cur,h1,_⟩
  ·cases h1
  ·cases h1;rfl
theorem Xw (h:(arrT e sz f ad n cap l).holds w):Arr w sz f ad n cap l:=by
 obtain ⟨h1,h2,h3⟩:=h;refine ⟨h1,ad,cap,rfl,h2,?_⟩;rcases h3 with ⟨rfl,rfl,rfl⟩|⟨g,off,cur,fz,rfl,hg,hfz,hnc,hcm,hcs,htake⟩
 ·exact ⟨Nat.le_refl _,by simp [maxLen],fun h=>by omega⟩
 ·refine ⟨hnc,hcm,fun _=>⟨_,rfl,(Array.getElem?_eq_some_iff.1 hg).1,fun j u hu=>?_⟩⟩;have hadd:(⟨g,off,none⟩:Addr).add j=⟨g,off+j,none⟩:=by unfold Addr.add;split<;>simp_all
  rw [hadd];rw [←htake,List.getElem?_take] at hu
  split at hu
  ·rw [List.getElem?_drop] at hu;simp only [World.cell?,hg]
   simpa using hu
  ·cases hu
theorem St.arrT_ {i:Nat} (h:St w0 H w) (hi:H[i]? = some (Go.Eng.arrT e sz f ad n cap l)):Arr w sz f ad n cap l:=Xw (h.holds _ (List.mem_of_getElem? hi))
end
section
variable {P:Program} {r:Option Nat} {ops:Array Oper} {K:Act→World→Prop} {N:Nat} {ds:List Deferred} {M:List (Nat×Value)} {a:Act} {w0 w:World} {k:Nat} {H:List Res} {α:Type} {e sz cap:Nat} {f:α→List Value} {ad:Option Addr} {l:List α}
theorem Qa (g o:Nat) (t:TypeId) (fz:Nat×Nat):∀(vs:List Value) (i:Nat) (cur:Array Value) (w:World),w.heap[g]? = some (.cells cur t fz)→(fz=(0,0)∨cur.size≤fz.1)→o+i+vs.length≤cur.size→(∀v∈vs,v.oneCell'=true) →
  (storeCells ⟨g,o,none⟩ vs i).run P w=.ok () (w.setRow g (cur.toList.take (o+i)++vs++cur.toList.drop (o+i+vs.length)).toArray)
 | [],i,cur,w,hg,_,_,_=>by
  simp only [storeCells,List.append_nil,List.length_nil,Nat.add_zero,List.take_append_drop,Array.toArray_toList];rw [setRow_self w g cur t fz hg];rfl
 | v::rest,i,cur,w,hg,hfz,hl,h1=>by
  have hi:o+i<cur.size:=by simp at hl;omega
  have hadd:(⟨g,o,none⟩:Addr).add i=⟨g,o+i,none⟩:=by unfold Addr.add;split<;>simp_all
  have hcell:w.cell? ⟨g,o+i,none⟩=some cur[o+i]:=by simp [World.cell?,hg,hi]
  have hfro:w.frozen? ⟨g,o+i,none⟩=false:=by
   obtain ⟨x,y⟩:=fz;simp only [World.frozen?,hg];rcases hfz with h|h
   ·cases h;simp
   ·simp only [Bool.and_eq_false_iff,decide_eq_false_iff_not];left;simp only at h;omega
  have hst:(store ((⟨g,o,none⟩:Addr).add i) v).run P w=.ok () (w.setRow g (cur.setIfInBounds (o+i) v)):=by
   rw [hadd,run_store P w _ v _ (h1 v (by simp)),hcell];simp [hfro,setCell_eq_setRow w g (o+i) cur t fz v hg]
  have ih:=Qa g o t fz rest (i+1) (cur.setIfInBounds (o+i) v) (w.setRow g (cur.setIfInBounds (o+i) v)) (setRow_heap w g cur _ t _ hg) (by simpa using hfz) (by simp at hl ⊢;omega) (fun x hx=>h1 x (by simp [hx]));simp only [storeCells,Sem.run_bind,hst,Result.andThen_ok,ih,setRow_setRow]
  congr 3
  have e:=list_seg_step cur.toList (o+i) v rest (by simp at hl ⊢;omega)
  simpa [Array.toList_setIfInBounds,Nat.add_assoc] using e
structure Src (P:Program) (w:World) (xt:TypeId) (sz:Nat) (x:Value) (n:Nat) (news:List Value):Prop where
 ty:∃u,P.underlying xt=some u∧((∃e,u=.slice e)∨u=.string)
 len:Builtin.lenOf x=pure n
 cells:∀w':World,(∀j,j<w.heap.size→w'.heap[j]? = w.heap[j]?)→(Builtin.firstCells sz n x).run P w'=.ok news.toArray w'
 size:news.length=n*sz
theorem Src.drew {w:World} {xt sz n:Nat} {x:Value} {news:List Value} (h:Src P w xt sz x n news):(Builtin.firstCells sz n x).run P w.drew=.ok news.toArray w.drew:=h.cells w.drew (fun _ _=>rfl)
theorem Src.slice {w:World} {xt u sz n cap:Nat} {ad:Option Addr} {l:List α} (ht:P.underlying xt=some (.slice u)) (hs:Arr w sz f ad n cap l):Src P w xt sz (.slice ad n cap) n (l.flatMap f):=by
 obtain ⟨_,ad',cap',he,hl,_,_,hcell⟩:=hs
 cases he
 refine ⟨⟨_,ht,.inl ⟨_,rfl⟩⟩,rfl,fun w' hw=>?_,hl⟩
 by_cases hn:n=0
 ·subst hn;have:l.flatMap f=[]:=List.eq_nil_of_length_eq_zero (by rw [hl];simp);rw [this]
  cases ad<;>simp [Builtin.firstCells,loadCells,loadCellsFrom]
 ·obtain ⟨a,rfl,hb,hc⟩:=hcell (by omega);refine run_firstCells_some (P:=P) w' sz n a n cap (l.flatMap f) hl (fun j u hu=>?_);have h:=hc j u hu;have hbl:(a.add j).block<w.heap.size:=by rw [N6];exact hb
  unfold World.cell? at h ⊢;rw [hw _ hbl];exact h
def sby (s:ByteArray):List Int:=s.data.toList.map fun b=>(b.toNat:Int)
theorem R0 (s:ByteArray):(sby s).length=s.size:=by unfold sby;rw [List.length_map];rfl
theorem A3m {β:Type} (g:β→Value) (l:List β):l.flatMap (fun x=>[g x])=l.map g:=by induction l with|nil=>rfl|cons x l ih=>simp [List.flatMap_cons,ih]
theorem Src.string {w:World} {xt:Nat} (s:ByteArray) (ht:P.underlying xt=some .string):Src P w xt 1 (.string s) s.size ((sby s).flatMap (fK .u8)):=by
 have e:(sby s).flatMap (fK .u8)=s.data.toList.map (fun b=>Value.int .u8 b.toNat):=by
  show (sby s).flatMap (fun x=>[Value.int .u8 x])=_;rw [A3m];unfold sby;rw [List.map_map];rfl
 refine ⟨⟨_,ht,.inr rfl⟩,rfl,fun w' _=>?_,by rw [e,List.length_map,Nat.mul_one];rfl⟩;rw [e];simp only [Builtin.firstCells];show Result.ok _ _=_
 congr 1
 have hx:s.extract 0 s.size=s:=by
  apply ByteArray.ext;rw [ByteArray.data_extract];exact Array.extract_size
 rw [hx];apply Array.ext';simp
theorem Xm (w:World) (t xt ty e:TypeId) (i:TypeInfo) (z:Value) (ht:P.underlying t=some (.slice e)) (hi:P.info? e=some i) (hz:i.zero=some z) {x:Value} {n:Nat} {news:List Value} (hs:Src P w xt i.size x n news)
  (hn:0<n) (h63:(n:Int)≤9223372036854775807) (hfit:Builtin.nextslicecap n 0*i.bytes≤281474976710656) :
  (Builtin.append_ #[t,xt] ty #[.slice none 0 0,x]).run P w=.ok (.slice (some ⟨w.heap.size,0,none⟩) n (grownCap w n 0 e)) (w.drew.alloc (.cells (news.toArray++Builtin.zeroCells z.cells (grownCap w n 0 e-n)) e)):=by
 obtain ⟨u,hu,hnu⟩:=hs.ty;have h63':¬(9223372036854775807<(n:Int)):=by omega
 have h48':¬(281474976710656<Builtin.nextslicecap n 0*i.bytes):=by omega
 have hn':¬n=0:=by omega
 have hd:=hs.drew;have hf0:∀w':World,(Builtin.firstCells i.size 0 (.slice none 0 0)).run P w'=.ok #[] w':=fun _=>rfl;rcases hnu with ⟨e',rfl⟩|rfl<;>simp [Builtin.append_,run_underlying ht,run_underlying hu,sizeOf,typeInfo,zeroValue,hi,hz,hs.len,hn',h63',h48',Question.forced,hd,hf0,newRow,grownCap]
theorem Wh (w:World) (t xt ty e:TypeId) (i:TypeInfo) (z:Value) (ht:P.underlying t=some (.slice e)) (hi:P.info? e=some i) (hz:i.zero=some z) (b:Addr) (sLen sCap:Nat) (olds:List Value) (hlo:olds.length=sLen*i.size) (holds:∀j v,olds[j]? = some v→w.cell? (b.add j)=some v)
  {x:Value} {n:Nat} {news:List Value} (hs:Src P w xt i.size x n news) (hg:sCap<sLen+n) (h63:((sLen+n:Nat):Int)≤9223372036854775807) (hfit:Builtin.nextslicecap (sLen+n) sCap*i.bytes≤281474976710656) :
  (Builtin.append_ #[t,xt] ty #[.slice (some b) sLen sCap,x]).run P w =
   .ok (.slice (some ⟨w.heap.size,0,none⟩) (sLen+n) (grownCap w (sLen+n) sCap e)) (w.drew.alloc (.cells (olds.toArray++news.toArray++Builtin.zeroCells z.cells (grownCap w (sLen+n) sCap e-(sLen+n))) e)):=by
 obtain ⟨u,hu,hnu⟩:=hs.ty;have hn:¬(sLen+n≤sCap):=by omega
 have h63':¬(9223372036854775807<((sLen:Int)+(n:Int))):=by omega
 have h48':¬(281474976710656<Builtin.nextslicecap (sLen+n) sCap*i.bytes):=by omega
 have hd:=hs.drew;have hfo:=run_firstCells_some (P:=P) w.drew i.size sLen b sLen sCap olds hlo (by simpa using holds);rcases hnu with ⟨e',rfl⟩|rfl<;>simp [Builtin.append_,run_underlying ht,run_underlying hu,sizeOf,typeInfo,zeroValue,hi,hz,hs.len,hn,h63',h48',Question.forced,hd,hfo,newRow,grownCap]<;>simp [←Array.append_assoc]
theorem Wj (w w':World) (t xt ty e:TypeId) (i:TypeInfo) (ht:P.underlying t=some (.slice e)) (hi:P.info? e=some i) (base:Addr) (sLen sCap:Nat)
  {x:Value} {n:Nat} {news:List Value} (hs:Src P w xt i.size x n news) (hr:sLen+n≤sCap) (hst:(storeCells (base.add (sLen*i.size)) news).run P w=.ok () w') :
  (Builtin.append_ #[t,xt] ty #[.slice (some base) sLen sCap,x]).run P w=.ok (.slice (some base) (sLen+n) sCap) w':=by
 obtain ⟨u,hu,hnu⟩:=hs.ty;have hd:=hs.cells w (fun _ _=>rfl);rcases hnu with ⟨e',rfl⟩|rfl<;>simp [Builtin.append_,run_underlying ht,run_underlying hu,sizeOf,typeInfo,hi,hs.len,hr,hd,hst]
theorem Wi (w:World) (t xt ty e:TypeId) (i:TypeInfo) (ht:P.underlying t=some (.slice e)) (hi:P.info? e=some i) {x:Value} {news:List Value} (hs:Src P w xt i.size x 0 news) :
  (Builtin.append_ #[t,xt] ty #[.slice none 0 0,x]).run P w=.ok (.slice none 0 0) w:=by
 obtain ⟨u,hu,hnu⟩:=hs.ty;have hd:=hs.cells w (fun _ _=>rfl);rcases hnu with ⟨e',rfl⟩|rfl<;>simp [Builtin.append_,run_underlying ht,run_underlying hu,sizeOf,typeInfo,hi,hs.len,hd]
theorem A3h (M':Option Addr→Nat→List (Nat×Value)) (i:Nat) {t xt ty bytes:Nat} {x:Value} {l' l3:List α} (hF:Fr N ds M a) (hS:St w0 H w) (hi:H[i]? = some (arrT e sz f ad l.length cap l)) (hdst:An ops N=true)
  (hs:EffAt ops k M (Builtin.append_ #[t,xt] ty #[.slice ad l.length cap,x])) (hty:Gz P t e sz bytes=true) (hsrc:Src P w xt sz x l'.length (l'.flatMap f)) (h1:∀x∈l',(f x).all Value.oneCell'=true) (hap:apd bytes l l'=some l3)
  (hM:∀ad2 cap2,NextM ops k M (.slice ad2 l3.length cap2) (M' ad2 cap2))
  (next:∀ad2 cap2 w' a',Fr N ds (M' ad2 cap2) a'→St w0 (H.set i (arrT e sz f ad2 l3.length cap2 l3)) w'→K a' w'):SK P r ops k K a w:=by
 obtain ⟨rfl,hb,h63⟩:=Mq hap;have hold:=hS.holds _ (List.mem_of_getElem? hi);have hlen:(l++l').length=l.length+l'.length:=List.length_append;obtain ⟨_,hll,h3⟩:=hold;obtain ⟨inf,z,ht,hi',hz,hsz',hby,hzs,hszp⟩:=Fs hty;subst hsz' hby;have hone:∀u∈l'.flatMap f,u.oneCell'=true:=fun u hu=>by
  obtain ⟨x,hx,hux⟩:=List.mem_flatMap.1 hu;exact List.all_eq_true.1 (h1 x hx) u hux
 have hl:=hsrc.size;have fin:∀(ad2:Option Addr) (cap2:Nat) (w':World),(Builtin.append_ #[t,xt] ty #[.slice ad l.length cap,x]).run P w=.ok (.slice ad2 (l.length+l'.length) cap2) w' →
   (arrT e inf.size f ad2 (l++l').length cap2 (l++l')).holds w'→w'.os=w.os→w'.tape=w.tape→w'.output=w.output→w.heap.size≤w'.heap.size→(∀j,j<w.heap.size→¬(Go.Eng.arrT e inf.size f ad l.length cap l).foot j→w'.heap[j]? = w.heap[j]?) →
   (∀j,(Go.Eng.arrT e inf.size f ad2 (l++l').length cap2 (l++l')).foot j→(Go.Eng.arrT e inf.size f ad l.length cap l).foot j∨w.heap.size≤j)→SK P r ops k K a w:=by
  intro ad2 cap2 w' hr hh g1 g2 g3 g4 g5 g6;refine T6 hF hdst hs hr (by rw [←hlen];exact hM ad2 cap2) ?_;intro a' hF';exact next ad2 cap2 w' a' hF' (hS.upd hi g1 g2 g3 g4 g5 hh g6)
 have hflat:(l++l').flatMap f=l.flatMap f++l'.flatMap f:=List.flatMap_append;have hfl:((l++l').flatMap f).length=(l++l').length*inf.size:=by rw [hflat,List.length_append,hll,hl,hlen,Nat.add_mul]
 have hsmall:l.length+l'.length≤9223372036854775807:=by simp only [maxLen] at h63;omega
 have grown:∀(old:Nat),old<l.length+l'.length →
   (Go.Eng.arrT e inf.size f (some ⟨w.heap.size,0,none⟩) (l++l').length (grownCap w (l.length+l'.length) old e) (l++l')).holds (w.drew.alloc (.cells ((l.flatMap f).toArray++(l'.flatMap f).toArray++Builtin.zeroCells z.cells (grownCap w (l.length+l'.length) old e-(l.length+l'.length))) e)):=by
  intro old ho;have hge:=grownCap_ge w (l.length+l'.length) old e;have hcm:grownCap w (l.length+l'.length) old e≤maxLen:=grownCap_le_maxLen w (l.length+l'.length) old e h63;refine ⟨rfl,hfl,.inr ⟨w.heap.size,0,_,_,rfl,heap_alloc_new w.drew _,.inl rfl,by rw [hlen];exact hge,hcm,?_,?_⟩⟩
  ·simp only [Array.size_append,List.size_toArray,size_zeroCells,hzs,hll,hl,←Nat.add_mul];rw [Nat.zero_add];exact Nat.mul_le_mul_right _ (by omega)
  ·simp only [Array.toList_append,List.drop_zero];rw [←hfl,hflat];exact List.take_left
 rcases h3 with ⟨rfl,h4,rfl⟩|⟨g,off,cur,fz,rfl,hg,hfz,hnc,hcm,hcs,htake⟩
 ·have hx:l=[]:=List.eq_nil_of_length_eq_zero h4;subst hx
  by_cases hm:l'.length=0
  ·have hn:l'=[]:=List.eq_nil_of_length_eq_zero hm;subst hn;refine fin none 0 w ?_ ⟨rfl,by simp,.inl ⟨rfl,by simp,rfl⟩⟩ rfl rfl rfl (Nat.le_refl _) (fun _ _ _=>rfl) (fun j hj=>.inl hj);exact Wi w t xt ty e inf ht hi' hsrc
  ·have hr:=Xm (P:=P) w t xt ty e inf z ht hi' hz hsrc (by omega) (by simp at hsmall;omega) (growslice_fits (by omega) (by simpa using hb));have hgr:=grown 0 (by simp;omega);simp only [List.length_nil,Nat.zero_add,List.nil_append,List.flatMap_nil,Array.empty_append] at hgr hr fin ⊢;refine fin _ _ _ hr hgr rfl rfl rfl (by simp) (fun j hj _=>Ya w.drew _ j hj) (fun j hj=>?_);obtain ⟨_,hj⟩:=hj
   cases hj
   exact .inr (Nat.le_refl _)
 ·by_cases hroom:l.length+l'.length≤cap
  ·have hcap:(l.length+l'.length)*inf.size≤cap*inf.size:=Nat.mul_le_mul_right _ hroom;have hadd:=Nat.add_mul l.length l'.length inf.size;have hfit:off+l.length*inf.size+(l'.flatMap f).length≤cur.size:=by rw [hl];omega
   have hst:=Qa (P:=P) g (off+l.length*inf.size) e fz (l'.flatMap f) 0 cur w hg hfz (by simpa using hfit) hone;simp only [Nat.add_zero] at hst;refine fin (some ⟨g,off,none⟩) cap (w.setRow g (cur.toList.take (off+l.length*inf.size)++l'.flatMap f++cur.toList.drop (off+l.length*inf.size+(l'.flatMap f).length)).toArray) ?_ ⟨rfl,hfl,.inr ⟨g,off,_,fz,rfl,setRow_heap w g cur _ e _ hg,?_,by rw [hlen];exact hroom,hcm,?_,?_⟩⟩ rfl rfl rfl (by simp [World.setRow]) (fun j _ hj=>setRow_other w g j _ (fun he=>hj ⟨off,by rw [he]⟩)) (fun j hj=>.inl hj)
   ·exact Wj w _ t xt ty e inf ht hi' _ _ _ hsrc hroom (by rw [Addr.add_lit];exact hst)
   ·refine hfz.imp id fun h=>?_;have:cur.toList.length=cur.size:=by simp
    simp only [List.size_toArray,List.length_append,List.length_take,List.length_drop];omega
   ·have:cur.toList.length=cur.size:=by simp
    simp only [List.size_toArray,List.length_append,List.length_take,List.length_drop];omega
   ·have hcl:cur.toList.length=cur.size:=by simp
    have hz:(cur.toList.take (off+l.length*inf.size)).length=off+l.length*inf.size:=by rw [List.length_take];omega
    rw [hlen,hflat,←htake,Nat.add_mul,←hl];simp only [List.append_assoc];rw [List.drop_append_of_le_length (by omega),List.drop_take,Nat.add_sub_cancel_left,List.take_append,List.length_take,List.length_drop,hcl];have e1:min (l.length*inf.size) (cur.size-off)=l.length*inf.size:=by omega
    rw [e1,List.take_of_length_le (by rw [List.length_take,List.length_drop];omega),Nat.add_sub_cancel_left,List.take_append_of_le_length (by omega),List.take_of_length_le (Nat.le_refl _)]
  ·have holds:∀j u,(l.flatMap f)[j]? = some u→w.cell? ((⟨g,off,none⟩:Addr).add j)=some u:=by
    intro j u hu;have hadd:(⟨g,off,none⟩:Addr).add j=⟨g,off+j,none⟩:=by unfold Addr.add;split<;>simp_all
    rw [hadd];rw [←htake,List.getElem?_take] at hu
    split at hu
    ·rw [List.getElem?_drop] at hu;simp only [World.cell?,hg]
     simpa using hu
    ·cases hu
   have hr:=Wh (P:=P) w t xt ty e inf z ht hi' hz ⟨g,off,none⟩ l.length cap (l.flatMap f) hll holds hsrc (by omega) (by omega) (growslice_fits (by omega) hb);refine fin _ _ _ hr (grown cap (by omega)) rfl rfl rfl (by simp) (fun j hj _=>Ya w.drew _ j hj) (fun j hj=>?_);obtain ⟨_,hj⟩:=hj
   cases hj
   exact .inr (Nat.le_refl _)
theorem Zn (M':Option Addr→Nat→List (Nat×Value)) (i:Nat) {t ty bytes scap:Nat} {sad:Option Addr} {l' l3:List α} (hF:Fr N ds M a) (hS:St w0 H w) (hi:H[i]? = some (arrT e sz f ad l.length cap l)) (hdst:An ops N=true)
  (hs:EffAt ops k M (Builtin.append_ #[t,t] ty #[.slice ad l.length cap,.slice sad l'.length scap])) (hty:Gz P t e sz bytes=true) (hsrc:Arr w sz f sad l'.length scap l') (h1:∀x∈l',(f x).all Value.oneCell'=true) (hap:apd bytes l l'=some l3)
  (hM:∀ad2 cap2,NextM ops k M (.slice ad2 l3.length cap2) (M' ad2 cap2))
  (next:∀ad2 cap2 w' a',Fr N ds (M' ad2 cap2) a'→St w0 (H.set i (arrT e sz f ad2 l3.length cap2 l3)) w'→K a' w'):SK P r ops k K a w:=by
 obtain ⟨inf,z,ht,_⟩:=Fs hty;exact A3h M' i hF hS hi hdst hs hty (Src.slice ht hsrc) h1 hap hM next
def Vr (P:Program) (t:TypeId):Bool:=match P.underlying t with|some .string=>true|_=>false
theorem Q2 {t:TypeId} (h:Vr P t=true):P.underlying t=some .string:=by
 unfold Vr at h
 split at h
 ·assumption
 ·cases h
theorem A5h (M':Option Addr→Nat→List (Nat×Value)) (i:Nat) {e:TypeId} {ad:Option Addr} {cap t xt ty bytes:Nat} {s:ByteArray} {l l3:List Int} (hF:Fr N ds M a) (hS:St w0 H w) (hi:H[i]? = some (arrT e 1 (fK .u8) ad l.length cap l)) (hdst:An ops N=true)
  (hs:EffAt ops k M (Builtin.append_ #[t,xt] ty #[.slice ad l.length cap,.string s])) (hty:Gz P t e 1 bytes=true) (hx:Vr P xt=true) (hap:apd bytes l (sby s)=some l3)
  (hM:∀ad2 cap2,NextM ops k M (.slice ad2 l3.length cap2) (M' ad2 cap2))
  (next:∀ad2 cap2 w' a',Fr N ds (M' ad2 cap2) a'→St w0 (H.set i (arrT e 1 (fK .u8) ad2 l3.length cap2 l3)) w'→K a' w'):SK P r ops k K a w :=
 A3h M' i hF hS hi hdst hs hty (by rw [R0];exact Src.string s (Q2 hx)) (fun _ _=>rfl) hap hM next
end
end Go.Eng
namespace Go.Eng
open Go Go.RowKit
set_option linter.unusedVariables false
def fA {α:Type} (f:α→List Value) (x:α):Value:=.agg (f x).toArray
section
variable {α β:Type} {c:List α} {l:List β} {S:α→β→Prop} {ν:Frz} {sz cap:Nat} {ad:Option Addr} {f:α→List Value}
end
section
variable {P:Program} {r:Option Nat} {ops:Array Oper} {K:Act→World→Prop} {N:Nat} {ds:List Deferred} {M:List (Nat×Value)} {a:Act} {w0 w:World} {k:Nat} {H:List Res} {α β:Type} {e t bytes:Nat} {S:α→β→Prop}
end
end Go.Eng
namespace Go.Eng
open Go Go.RowKit
set_option linter.unusedVariables false
section
variable {P:Program} {ops:Array Oper} {Q:Exit→Act→World→Prop} {N:Nat} {ds:List Deferred} {M:List (Nat×Value)} {a:Act} {w:World}
end
end Go.Eng
namespace Go.Eng
open Go Go.RowKit
set_option linter.unusedVariables false
section
variable {P:Program} {r:Option Nat} {ops:Array Oper} {K:Act→World→Prop} {N:Nat} {ds:List Deferred} {M M':List (Nat×Value)} {a:Act} {w0 w:World} {k:Nat} {H:List Res} {γ:Type} {n:Nat} {f:γ→Value} {hd:List Hd} {css:List (List (T4 γ n))} {L L3:List (List (T4 γ n))} {l l3:List (T4 γ n)} {eo e cap:Nat} {ad:Option Addr}
end
end Go.Eng
namespace Go.Eng
open Go Go.RowKit
set_option linter.unusedVariables false
set_option linter.unusedSimpArgs false
def A2a (s:ByteArray) (i:Int):Option Int:=if 0≤i∧i<s.size then some ((s[i.toNat]!).toNat:Int) else none
def nmC (x:Nat):Bool:=!(decide (97≤x)&&decide (x≤122)||decide (48≤x)&&decide (x≤57)||x==95)
def A5x (s:ByteArray):Bool:=decide (0≤Lib.idxFunc nmC true s)
def bst (l:List Int):ByteArray:=⟨(l.map fun x=>UInt8.ofNat x.toNat).toArray⟩
theorem Te:∀(l:List Int) (s:ByteArray),l.foldl (fun r n=>r.push (UInt8.ofNat n.toNat)) s=⟨s.data++(l.map fun x=>UInt8.ofNat x.toNat).toArray⟩
 | [],s=>by simp
 | x::l,s=>by
  simp only [List.foldl_cons];rw [Te l];simp [ByteArray.push]
def S1 (P:Program) (t:TypeId):Bool:=match P.underlying t with
 | some (.slice e)=>match P.underlying e with|some (.int .u8)=>true|_=>false
 | _=>false
theorem Qn {P:Program} {t:TypeId} (h:S1 P t=true):∃e,P.underlying t=some (.slice e)∧P.underlying e=some (.int .u8):=by
 unfold S1 at h
 split at h
 ·rename_i e he
  split at h
  ·rename_i he2;exact ⟨e,he,he2⟩
  ·cases h
 ·cases h
section
variable {P:Program} {r:Option Nat} {ops:Array Oper} {K:Act→World→Prop} {N:Nat} {ds:List Deferred} {M:List (Nat×Value)} {a:Act} {w0 w:World} {k:Nat} {H:List Res} {cs:List Cd}
theorem W5 {T:World→World→Prop} {D:World→Prop} {src dst:TypeId} {ad:Option Addr} {cap:Nat} {l:List Int} (hs:S1 P src=true) (hd:Vr P dst=true) (h:∀w',D w'→Arr w' 1 (fK .u8) ad l.length cap l) :
  Ob.ok P T D (.run cs (convert src dst (.slice ad l.length cap)) (.string (bst l))):=by
 intro _ w' e;obtain ⟨el,h1,h2⟩:=Qn hs;rw [run_convert_bytes_string w' src dst el ad l.length cap h1 h2 (Q2 hd)];have ha:=h w' e
 cases ad with
 | none =>
  have hl:l=[]:=by
   obtain ⟨_,ad',cap',he,_,_,_,hc⟩:=ha
   cases he
   rcases Nat.eq_zero_or_pos l.length with h0|h0
   ·exact List.eq_nil_of_length_eq_zero h0
   ·obtain ⟨a,ha,_⟩:=hc h0;cases ha
  subst hl;rfl
 | some a =>
  have hc:∀j u,(l.map (Value.int .u8))[j]? = some u→w'.cell? (a.add j)=some u:=by
   obtain ⟨_,ad',cap',he,_,_,_,hc⟩:=ha
   cases he
   intro j u hu;have hj:j<l.length:=by have:=(List.getElem?_eq_some_iff.1 hu).1;simpa using this
   obtain ⟨b,hb,_,h⟩:=hc (by omega)
   cases hb
   refine h j u ?_;show (l.flatMap fun x=>[Value.int .u8 x])[j]? = _;rw [A3m];exact hu
  have hld:=run_loadCells_list (P:=P) w' a (l.map (Value.int .u8)) hc;rw [List.length_map] at hld;rw [run_bytesToString w' a l.length cap l hld,Te];show Result.ok (Value.string ⟨#[]++_⟩) w'=_;simp [bst]
theorem A0y {T:World→World→Prop} {D:World→Prop} {t:TypeId} {s:ByteArray} {i u:Int} (ht:Vr P t=true) (h:B8 cs=true→A2a s i=some u):Ob.ok P T D (.run cs (Instr.index t (.string s) (.int .i64 i)) (.int .u8 u)):=by
 intro hk w' _;have h:=h hk;unfold A2a at h
 split at h
 ·rename_i hc
  cases h
  have hlt:i.toNat<s.size:=by omega
  have e1:s[i.toNat]? = some (s[i.toNat]!):=by
   rw [getElem?_pos s i.toNat hlt,getElem!_pos s i.toNat hlt]
  simp [Instr.index,run_underlying (Q2 ht),asIntOf,hc.1,e1]
 ·cases h
def sEq (a b:ByteArray):Bool:=decide (a.data.toList=b.data.toList)
theorem Uz {a b:ByteArray}:sEq a b=true↔a=b:=by
 unfold sEq;rw [decide_eq_true_eq];constructor
 ·intro h;have:a.data=b.data:=Array.toList_inj.1 h
  cases a;cases b;simp only [ByteArray.mk.injEq];exact this
 ·rintro rfl;rfl
theorem Nl (a b:ByteArray):(a.toList==b.toList)=sEq a b:=by
 rw [Lib.toList_data,Lib.toList_data];unfold sEq;rw [Bool.eq_iff_iff];simp
theorem A61 {T:World→World→Prop} {D:World→Prop} {t:TypeId} {a b:ByteArray}:Ob.ok P T D (.run cs (Sg .eql t a b) (.bool (sEq a b))):=fun _ w' _=>by
 rw [←Nl];simp [Sg,eqGuard,binOp,Op.stringOp]
theorem W7 {T:World→World→Prop} {D:World→Prop} {t:TypeId} {a b:ByteArray}:Ob.ok P T D (.run cs (Sg .neq t a b) (.bool (!sEq a b))):=fun _ w' _=>by
 rw [←Nl];simp [Sg,eqGuard,binOp,Op.stringOp]
structure ConvAt (ops:Array Oper) (k:Nat) (M:List (Nat×Value)) (src dst:TypeId) (v:Value):Prop where
 eq:((plainAt ops k M).bind fun o=>match o.op with|.convert s t x=>some (s,t,rhoE (ofM M) x)|_=>none)=some (src,dst,v)
theorem A42 (M':List (Nat×Value)) (i:Nat) {e:TypeId} {src cap:Nat} {ad:Option Addr} {l:List Int} (hF:Fr N ds M a) (hS:St w0 H w) (hi:H[i]? = some (arrT e 1 (fK .u8) ad l.length cap l)) (hne:l.length≠0) (hdst:An ops N=true) (hs:ConvAt ops k M src src (.slice ad l.length cap)) (h2:S1 P src=true)
  (hM:NextM ops k M (.slice ad l.length cap) M')
  (next:∀w' a',Fr N ds M' a'→St w0 (H.set i (arrT e 1 (fK .u8) ad l.length cap l)) w'→K a' w'):SK P r ops k K a w:=by
 obtain ⟨el,hu,hv⟩:=Qn h2;have hs:=hs.eq;have hold:=hS.holds _ (List.mem_of_getElem? hi);obtain ⟨_,hll,h3⟩:=hold;rcases h3 with ⟨_,h0,_⟩|⟨g,off,cur,fz,rfl,hg,hfz,hnc,hcm,hcs,htake⟩
 ·exact absurd h0 hne
 cases ho:plainAt ops k M with
 | none=>rw [ho] at hs;simp at hs
 | some o =>
  rw [ho] at hs;simp only [Option.bind_some] at hs
  split at hs
  ·rename_i s' t' x hop
   simp at hs;obtain ⟨rfl,rfl,hx⟩:=hs;have hsh:w.shape? g=some (e,cur.size):=by unfold World.shape?;rw [hg]
   have hlt:g<w.heap.size:=(Array.getElem?_eq_some_iff.1 hg).1;refine Wb (v:=.slice (some ⟨g,off,none⟩) l.length cap) hF hdst ho (w':=w.freeze ⟨g,cur.size,none⟩ 1) ?_ hM ?_
   ·unfold execOp;rw [hop];simp [hx,convert,run_underlying hu,run_underlying hv,markStringish,hsh]
   ·intro a' hF';have hnew:(w.freeze ⟨g,cur.size,none⟩ 1).heap[g]? = some (.cells cur e (if fz.1==fz.2 then (cur.size,cur.size+1) else (min fz.1 cur.size,max fz.2 (cur.size+1)))):=by
     simp [World.freeze,Array.getElem?_modify,hg]
    refine next _ a' hF' (hS.upd hi rfl rfl rfl ?_ (fun j hj hnf=>?_) ⟨rfl,hll,.inr ⟨g,off,cur,_,rfl,hnew,.inr ?_,hnc,hcm,hcs,htake⟩⟩ (fun j hj=>.inl hj))
    ·simp [World.freeze]
    ·unfold World.freeze;rw [if_neg (by decide)];simp only [Array.getElem?_modify];rw [if_neg (fun he=>hnf ⟨off,by rw [he]⟩)]
    ·split
     ·exact Nat.le_refl _
     ·rename_i hne2
      rcases hfz with h|h
      ·rw [h] at hne2;exact absurd rfl hne2
      ·show cur.size≤min fz.1 cur.size;omega
  ·simp at hs
theorem ArrM.of_arrT {α:Type} {μ:Frz} {e sz cap:Nat} {f:α→List Value} {ad:Option Addr} {l:List α} (h:∀w,FrzAt μ w→(arrT e sz f ad l.length cap l).holds w):ArrM μ sz f ad cap l:=fun w hw=>Xw (h w hw)
def Tx (P:Program) (f:FuncId) (args:Array Value) (w:World) {α ε:Type} (y:Except (Value×ε) α) (R:α→Value→World→Prop) (Rp:ε→World→Prop):Prop :=
 Calls P f args w (fun e w'=>(∃x v,y=.ok x∧e=.returned v∧R x v w')∨∃x,y=.error x∧e=.panicked [{ v:=x.1,recovered:=false }]∧Rp x.2 w')
theorem Qg {Q:Exit→Act→World→Prop} (M':Value→List (Nat×Value)) {f:FuncId} {args:Array Value} {α ε:Type} {y:Except (Value×ε) α} {R:α→Value→World→Prop} {Rp:ε→World→Prop} (hF:Fr N ds M a) (hdst:An ops N=true) (hs:CallAt P ops k M f args)
  (hc:Tx P f args w y R Rp) (hM:∀v,NextM ops k M v (M' v))
  (hp:∀x w',y=.error x→Rp x.2 w'→Q (.panic [{ v:=x.1,recovered:=false }]) a w')
  (next:∀x v w' a',y=.ok x→R x v w'→Fr N ds (M' v) a'→WI P r ops Q (k+1) a' w'):WI P r ops Q k a w :=
 A5m M' (R:=fun v w'=>∃x,y=.ok x∧R x v w') (Rp:=fun ch w'=>∃x,y=.error x∧ch=[{ v:=x.1,recovered:=false }]∧Rp x.2 w') hF hdst hs
  (Calls.mono hc (by
   rintro e w' (⟨x,v,h1,rfl,h2⟩|⟨x,h1,rfl,h2⟩)
   ·exact .inl ⟨v,rfl,x,h1,h2⟩
   ·exact .inr ⟨_,rfl,x,h1,rfl,h2⟩)) hM
  (by rintro ch w' ⟨x,h1,rfl,h2⟩;exact hp x w' h1 h2)
  (by rintro v w' a' ⟨x,h1,h2⟩ hF';exact next x v w' a' h1 h2 hF')
theorem Zt {B:List PanicEntry→World→Prop} (M':Value→List (Nat×Value)) {f:FuncId} {args:Array Value} {α ε:Type} {y:Except (Value×ε) α} {R:α→Value→World→Prop} {Rp:ε→World→Prop} (hF:Fr N ds M a) (hdst:An ops N=true) (hs:CallAt P ops k M f args)
  (hc:Tx P f args w y R Rp) (hM:∀v,NextM ops k M v (M' v))
  (hp:∀x w',y=.error x→Rp x.2 w'→B [{ v:=x.1,recovered:=false }] w')
  (next:∀x v w' a',y=.ok x→R x v w'→Fr N ds (M' v) a'→K a' w'):SKB P r ops k B K a w:=by
 have hs:=hs.eq
 cases ho:plainAt ops k M with
 | none=>rw [ho] at hs;simp at hs
 | some o =>
  rw [ho] at hs;simp only [Option.bind_some] at hs
  split at hs
  ·rename_i f' args' hpu
   simp at hs;obtain ⟨rfl,rfl⟩:=hs;obtain ⟨h1,h2,h3⟩:=Fm (r:=r) ho hF;refine ⟨o,h1,.inr ⟨h2,f',args',w,?_,Calls.mono hc ?_⟩⟩
   ·rw [h3,B3 _ _ hpu w]
   ·rintro e w' (⟨x,v,e1,rfl,hv⟩|⟨x,e1,rfl,hv⟩)
    ·exact .inl ⟨v,rfl,next x v w' _ e1 hv (Er h1 hdst hF (hM v))⟩
    ·exact .inr ⟨_,rfl,hp x w' e1 hv⟩
  ·simp at hs
theorem A6i {α:Type} {e sz cap:Nat} {f:α→List Value} {ad:Option Addr} {l:List α} (M':List (Nat×Value)) (i:Nat) {t:Nat} {j:Int} (off:Nat) (u x:α) (v:Value) {l3:List α} (hF:Fr N ds M a) (hS:St w0 H w) (hi:H[i]? = some (arrT e sz f ad l.length cap l)) (hdst:An ops N=true)
  (hs:StoreAt ops k M t (.pointer (some ((At ad j sz).add off))) v) (hf:∀x,(f x).length=sz) (hu:Bo l j=some u) (hx:f x=(f u).take off++v.cells.toList++(f u).drop (off+v.cells.toList.length)) (hfit:Nat.ble (off+v.cells.toList.length) sz=true)
  (hsz:pureSem P (sizeOf t)=some v.cells.size) (hone:v.cells.toList.all Value.oneCell'=true) (hl3:Sz l j x=some l3) (hM:NextM ops k M undef M')
  (next:∀w' a',Fr N ds M' a'→l.length=l3.length→St w0 (H.set i (arrT e sz f ad l.length cap l3)) w'→K a' w'):SK P r ops k K a w:=by
 have hold:=hS.holds _ (List.mem_of_getElem? hi);obtain ⟨h0,hjl,hgu⟩:=Kh hu;obtain ⟨_,_,rfl⟩:=Ts hl3;have hfit':=Nat.le_of_ble_eq_true hfit;rcases hold.2.2 with ⟨h',hz,_⟩|⟨g,o,cur,fz,h',hg,hfz,hnc,hcm,hcs,htake⟩
 ·omega
 ·subst h';have hjn:j.toNat<l.length:=by omega
  have hoff:j.toNat*sz+off+v.cells.toList.length≤l.length*sz:=by
   have:=Nat.mul_le_mul_right sz (show j.toNat+1≤l.length by omega);rw [Nat.add_mul] at this;omega
  have hcap:l.length*sz≤cap*sz:=Nat.mul_le_mul_right sz hnc;have hadd:(At (some ⟨g,o,none⟩) j sz).add off=⟨g,o+(j.toNat*sz+off),none⟩:=by
   unfold At;rw [Mo];show (⟨g,o,none⟩:Addr).add _=_;unfold Addr.add;split<;>simp_all
  rw [hadd] at hs;have hsz':=B3 _ _ hsz w;have hst:=Qa (P:=P) g (o+(j.toNat*sz+off)) e fz v.cells.toList 0 cur w hg hfz (by omega) (fun u hu=>List.all_eq_true.1 hone u hu);simp only [Nat.add_zero] at hst;have hsp:=Rn (f:=f) hf (x':=x) (us:=v.cells.toList) (j:=off) hfit' l j.toNat u hgu hx;have hlen3:l.length=(l.set j.toNat x).length:=by simp
  have hcl:cur.toList.length=cur.size:=by simp
  refine Ri hF hdst hs (w':=w.setRow g (cur.toList.take (o+(j.toNat*sz+off))++v.cells.toList++cur.toList.drop (o+(j.toNat*sz+off)+v.cells.toList.length)).toArray) ?_ hM ?_
  ·simp [storeVar,hsz',hst]
  ·intro a' hF';refine next _ a' hF' hlen3 (hS.upd hi rfl rfl rfl (by simp [World.setRow]) (fun q _ hq=>setRow_other w g q _ (fun e=>hq ⟨o,by rw [e]⟩)) ⟨hlen3.symm,?_,.inr ⟨g,o,_,fz,rfl,setRow_heap w g cur _ e _ hg,?_,hnc,hcm,?_,?_⟩⟩ (fun q hq=>.inl hq))
   ·rw [←hsp];have h1:=hold.2.1;simp only [List.length_append,List.length_take,List.length_drop] at h1 ⊢;omega
   ·refine hfz.imp id fun h=>?_;simp only [List.size_toArray,List.length_append,List.length_take,List.length_drop];omega
   ·simp only [List.size_toArray,List.length_append,List.length_take,List.length_drop];omega
   ·rw [←hsp,←htake];have e0:(cur.toList.drop o).length=cur.size-o:=by simp
    have e1:(cur.toList.take (o+(j.toNat*sz+off))++v.cells.toList++cur.toList.drop (o+(j.toNat*sz+off)+v.cells.toList.length)).drop o=(cur.toList.drop o).take (j.toNat*sz+off)++v.cells.toList++(cur.toList.drop o).drop (j.toNat*sz+off+v.cells.toList.length):=by
     rw [List.append_assoc,List.drop_append_of_le_length (by rw [List.length_take];omega),List.drop_take,Nat.add_sub_cancel_left,List.drop_drop,List.append_assoc,Nat.add_assoc o]
    rw [e1];exact Mf (by omega) (by omega)
end
end Go.Eng
namespace Go.Eng
open Go Go.RowKit
set_option linter.unusedVariables false
set_option linter.unusedSimpArgs false
abbrev FM:=List (Nat×Value)
class Pre (n M:FM) (M':outParam FM):Prop
instance {M:FM}:Pre [] M M:=⟨⟩
instance {e:Nat×Value} {n M M':FM} [Pre n M M']:Pre (e::n) M (e::M'):=⟨⟩
class SetL (l:List Value) (i:Nat) (v:Value) (l':outParam (List Value)):Prop
instance {x v:Value} {l:List Value}:SetL (x::l) 0 v (v::l):=⟨⟩
instance {x v:Value} {l l':List Value} {i:Nat} [SetL l i v l']:SetL (x::l) (i+1) v (x::l'):=⟨⟩
class Spt (n:Nat) (l:List Nat) (a b:outParam (List Nat)):Prop
instance {l:List Nat}:Spt 0 l [] l:=⟨⟩
instance {n x:Nat} {l a b:List Nat} [Spt n l a b]:Spt (n+1) (x::l) (x::a) b:=⟨⟩
theorem Au {α:Type _} {a b:α} (h:some a=some b):a=b:=Option.some.inj h
section
variable {P:Program} {r:Option Nat} {ops:Array Oper} {Q:Exit→Act→World→Prop} {K:Act→World→Prop} {N:Nat} {ds:List Deferred} {M M':FM} {a:Act} {w w0:World} {H:List Res} {obs:List Ob}
theorem qn {k:Nat} (n k':Nat) (nw:FM) (hF:Fr N ds M a) (next:∀a',Fr N ds M' a'→WI P r ops Q k' a' w) [Pre nw M M'] (hdst:An ops N=true:=by kernel_rfl) (h:Ends P ops n k M M' []:=by exact ⟨by kernel_rfl⟩) (hk:k+n=k':=by rfl):WI P r ops Q k a w :=
 Wg k' M' hF hdst A4 h hk next
theorem qo {k:Nat} (n k':Nat) (nw:FM) (hF:Fr N ds M a) (hob:Obs P (fun a b=>b=a) (fun x=>x=w) obs) (next:∀a',Fr N ds M' a'→WI P r ops Q k' a' w) [Pre nw M M'] (hdst:An ops N=true:=by kernel_rfl) (h:Ends P ops n k M M' obs:=by exact ⟨by kernel_rfl⟩) (hk:k+n=k':=by rfl):WI P r ops Q k a w :=
 Wg k' M' hF hdst hob h hk next
theorem qx {k:Nat} (n k':Nat) (nw:FM) (hF:Fr N ds M a) (hob:Obs P Ext (Ext w) obs) (next:∀a' w',Fr N ds M' a'→Ext w w'→WI P r ops Q k' a' w') [Pre nw M M'] (hdst:An ops N=true:=by kernel_rfl) (h:Ends P ops n k M M' obs:=by exact ⟨by kernel_rfl⟩) (hk:k+n=k':=by rfl):WI P r ops Q k a w :=
 A6f k' M' hF hdst hob h hk next
end
section
variable {P:Program} {r:Option Nat} {ops:Array Oper} {y:Code} {id:Nat} {Q:Exit→Act→World→Prop} {K:Act→World→Prop} {N:Nat} {ds:List Deferred} {M M':FM} {a:Act} {w w0:World} {H:List Res} {obs:List Ob}
theorem qnB (nw:FM) (hF:Fr N ds M a) (next:∀a',Fr N ds M' a'→WP P r y Q a' w) [Pre nw M M'] (hdst:An ops N=true:=by kernel_rfl) (h:Ends P ops ops.size 0 M M' []:=by exact ⟨by kernel_rfl⟩):WP P r (.seq (.region id ops false) y) Q a w :=
 esr (Wg ops.size M' hF hdst A4 h (Nat.zero_add _) fun a' hF'=>wfn (Nat.beq_refl _) (next a' hF'))
theorem qoB (nw:FM) (hF:Fr N ds M a) (hob:Obs P (fun a b=>b=a) (fun x=>x=w) obs) (next:∀a',Fr N ds M' a'→WP P r y Q a' w) [Pre nw M M'] (hdst:An ops N=true:=by kernel_rfl) (h:Ends P ops ops.size 0 M M' obs:=by exact ⟨by kernel_rfl⟩):WP P r (.seq (.region id ops false) y) Q a w :=
 esr (Wg ops.size M' hF hdst hob h (Nat.zero_add _) fun a' hF'=>wfn (Nat.beq_refl _) (next a' hF'))
theorem rnB (M':FM) (hF:Fr N ds M a) (next:∀a',Fr N ds M' a'→WP P r y Q a' w) (hdst:An ops N=true:=by kernel_rfl) (h:Ends P ops ops.size 0 M M' []:=by exact ⟨by kernel_rfl⟩):WP P r (.seq (.region id ops false) y) Q a w :=
 esr (Wg ops.size M' hF hdst A4 h (Nat.zero_add _) fun a' hF'=>wfn (Nat.beq_refl _) (next a' hF'))
theorem roB (M':FM) (hF:Fr N ds M a) (hob:Obs P (fun a b=>b=a) (fun x=>x=w) obs) (next:∀a',Fr N ds M' a'→WP P r y Q a' w) (hdst:An ops N=true:=by kernel_rfl) (h:Ends P ops ops.size 0 M M' obs:=by exact ⟨by kernel_rfl⟩):WP P r (.seq (.region id ops false) y) Q a w :=
 esr (Wg ops.size M' hF hdst hob h (Nat.zero_add _) fun a' hF'=>wfn (Nat.beq_refl _) (next a' hF'))
end
section
variable {P:Program} {r:Option Nat} {ops:Array Oper} {Q:Exit→Act→World→Prop} {K:Act→World→Prop} {N:Nat} {ds:List Deferred} {M M':FM} {a:Act} {w w0:World} {H:List Res} {obs:List Ob}
theorem ro {k:Nat} (n k':Nat) (M':FM) (hF:Fr N ds M a) (hob:Obs P (fun a b=>b=a) (fun x=>x=w) obs) (next:∀a',Fr N ds M' a'→WI P r ops Q k' a' w) (hdst:An ops N=true:=by kernel_rfl) (h:Ends P ops n k M M' obs:=by exact ⟨by kernel_rfl⟩) (hk:k+n=k':=by rfl):WI P r ops Q k a w :=
 Wg k' M' hF hdst hob h hk next
theorem rX {k:Nat} (n k':Nat) (M':FM) (hF:Fr N ds M a) (hob:Obs P Ext (Ext w) obs) (next:∀a' w',Fr N ds M' a'→Ext w w'→WI P r ops Q k' a' w') (hdst:An ops N=true:=by kernel_rfl) (h:Ends P ops n k M M' obs:=by exact ⟨by kernel_rfl⟩) (hk:k+n=k':=by rfl):WI P r ops Q k a w :=
 A6f k' M' hF hdst hob h hk next
theorem rD {id:Nat} (m:Nat) (M':FM) (hF:Fr N ds M a) (hob:Obs P Ext (Ext w) obs) (next:∀a' w',Fr N ds M' a'→Ext w w'→WI P r ops Q m a' w') (hmo:P.follows .mixedOrders=true:=by kernel_rfl) (hck:(An ops N&&Jm ops m&&Fa ops m&&Dn ops&&Nat.ble m ops.size)=true:=by kernel_rfl)
  (h:Ends P ops m 0 M M' obs:=by exact ⟨by kernel_rfl⟩):WP P r (.region id ops true) Q a w:=A6c m M' hmo hF hck hob h next
theorem qD {id:Nat} (m:Nat) (nw:FM) (hF:Fr N ds M a) (hob:Obs P Ext (Ext w) obs) (next:∀a' w',Fr N ds M' a'→Ext w w'→WI P r ops Q m a' w') [Pre nw M M'] (hmo:P.follows .mixedOrders=true:=by kernel_rfl) (hck:(An ops N&&Jm ops m&&Fa ops m&&Dn ops&&Nat.ble m ops.size)=true:=by kernel_rfl)
  (h:Ends P ops m 0 M M' obs:=by exact ⟨by kernel_rfl⟩):WP P r (.region id ops true) Q a w:=A6c m M' hmo hF hck hob h next
variable {k:Nat}
theorem qs (t i off:Nat) (v:Value) {tt:TypeId} {b:Nat} {cs cs':List Value} (hF:Fr N ds M a) (hS:St w0 H w) (hi:H[i]? = some (blk b tt cs.toArray)) (next:∀w' a',Fr N ds M a'→St w0 (H.set i (blk b tt cs'.toArray)) w'→K a' w') [SetL cs off v cs'] (hdst:An ops N=true:=by kernel_rfl)
  (hs:StoreAt ops k M t (.pointer (some ⟨b,off,none⟩)) v:=by exact ⟨by kernel_rfl⟩) (hsz:pureSem P (sizeOf t)=some v.cells.size:=by kernel_rfl) (hone:v.cells.toList.all Value.oneCell'=true:=by kernel_rfl) (hfit:Nat.ble (off+v.cells.size) cs.toArray.size=true:=by kernel_rfl) (hcs:V3 cs.toArray off v.cells.toList=cs'.toArray:=by kernel_rfl)
  (hM:NextM ops k M undef M:=by exact ⟨by kernel_rfl⟩):SK P r ops k K a w:=P5 M i off v cs'.toArray hF hS hi hdst hs hsz hone hfit hcs hM next
theorem qB {M':Nat→FM} (t:TypeId) (v:Value) (cs:Array Value) (nw:Nat→FM) (hF:Fr N ds M a) (hS:St w0 H w) (next:∀b w' a',Fr N ds (M' b) a'→St w0 (blk b t cs::H) w'→K a' w') [∀b,Pre (nw b) M (M' b)] (hdst:An ops N=true:=by kernel_rfl) (hs:EffAt ops k M (Instr.box t v):=by exact ⟨by kernel_rfl⟩) (hcs:v.cells=cs:=by kernel_rfl)
  (hM:∀b,NextM ops k M (.pointer (some ⟨b,0,none⟩)) (M' b):=by exact fun _=>⟨by kernel_rfl⟩):SK P r ops k K a w:=A3x M' v cs hF hS hdst hs hcs hM next
theorem qA {M':Nat→FM} (t:TypeId) (cs:Array Value) (nw:Nat→FM) (hF:Fr N ds M a) (hS:St w0 H w) (next:∀b w' a',Fr N ds (M' b) a'→St w0 (blk b t cs::H) w'→K a' w') [∀b,Pre (nw b) M (M' b)] (hdst:An ops N=true:=by kernel_rfl) (hs:EffAt ops k M (Instr.alloc t true (.tuple #[])):=by exact ⟨by kernel_rfl⟩)
  (hz:((P.info? t).bind (·.zero)).map Value.cells=some cs:=by kernel_rfl) (hM:∀b,NextM ops k M (.pointer (some ⟨b,0,none⟩)) (M' b):=by exact fun _=>⟨by kernel_rfl⟩):SK P r ops k K a w:=A3v M' cs hF hS hdst hs hz hM next
theorem qR {M':Value→FM} (nw:Value→FM) {f:FuncId} {args:Array Value} {R:Value→World→Prop} (hF:Fr N ds M a) (hc:Bd P f args w R) (next:∀v w' a',R v w'→Fr N ds (M' v) a'→K a' w') [∀v,Pre (nw v) M (M' v)] (hdst:An ops N=true:=by kernel_rfl) (hs:CallAt P ops k M f args:=by exact ⟨by kernel_rfl⟩)
  (hM:∀v,NextM ops k M v (M' v):=by exact fun _=>⟨by kernel_rfl⟩):SK P r ops k K a w:=A3k M' hF hdst hs hc hM next
theorem rR (M':Value→FM) {f:FuncId} {args:Array Value} {R:Value→World→Prop} (hF:Fr N ds M a) (hc:Bd P f args w R) (next:∀v w' a',R v w'→Fr N ds (M' v) a'→K a' w') (hdst:An ops N=true:=by kernel_rfl) (hs:CallAt P ops k M f args:=by exact ⟨by kernel_rfl⟩)
  (hM:∀v,NextM ops k M v (M' v):=by exact fun _=>⟨by kernel_rfl⟩):SK P r ops k K a w:=A3k M' hF hdst hs hc hM next
variable {T:World→World→Prop} {D:World→Prop}
theorem St.i (h:St w0 H w):∀w',w'=w→St w0 H w':=fun _ e=>h.at_ e
theorem St.e (h:St w0 H w):∀w',Ext w w'→St w0 H w':=fun _ e=>h.later e
theorem oL (t i j:Nat) {H:List Res} {b:Nat} {tt:TypeId} {cs:Array Value} {u:Value} (hs:∀w',D w'→St w0 H w') (hi:H[i]? = some (blk b tt cs)) (hj:cs[j]? = some u) (l:Obs P T D obs) (ht:Q6 P t=true:=by kernel_rfl):Obs P T D (.run [] (Instr.loadAt t (.pointer (some ⟨b,j,none⟩))) u::obs) :=
 Dv (ob1 ht fun w' hd=>(hs w' hd).cell hi hj) l
theorem oN (t i off n:Nat) {H:List Res} {b:Nat} {tt:TypeId} {cs:Array Value} (hs:∀w',D w'→St w0 H w') (hi:H[i]? = some (blk b tt cs)) (l:Obs P T D obs) (ht:N7 P t=some ((cs.toList.drop off).take n).length:=by kernel_rfl) (hn:(cs.toList.drop off).take ((cs.toList.drop off).take n).length=(cs.toList.drop off).take n:=by kernel_rfl) :
  Obs P T D (.run [] (Instr.loadAt t (.pointer (some ⟨b,off,none⟩))) (.agg ((cs.toList.drop off).take n).toArray)::obs):=Dv (obN ht fun w' hd=>((hs w' hd).blk hi).cells hn) l
theorem oA (t:TypeId) {x y z:Int} (h:ck (x+y)=some z) (l:Obs P T D obs):Obs P T D (.run [] (binOp .add t (.int .i64 x) (.int .i64 y)) (.int .i64 z)::obs):=Dv (A0w fun _=>h) l
theorem oS (t:TypeId) {x y z:Int} (h:ck (x-y)=some z) (l:Obs P T D obs):Obs P T D (.run [] (binOp .sub t (.int .i64 x) (.int .i64 y)) (.int .i64 z)::obs):=Dv (Uq fun _=>h) l
theorem oM (t:TypeId) {x y z:Int} (h:ck (x*y)=some z) (l:Obs P T D obs):Obs P T D (.run [] (binOp .mul t (.int .i64 x) (.int .i64 y)) (.int .i64 z)::obs):=Dv (A4n fun _=>h) l
theorem oQ (t:TypeId) {x y z:Int} (h:Nq x y=some z) (l:Obs P T D obs):Obs P T D (.run [] (binOp .quo t (.int .i64 x) (.int .i64 y)) (.int .i64 z)::obs):=Dv (A4o fun _=>h) l
theorem oR (t:TypeId) {x y z:Int} (h:F2 x y=some z) (l:Obs P T D obs):Obs P T D (.run [] (binOp .rem t (.int .i64 x) (.int .i64 y)) (.int .i64 z)::obs):=Dv (A4q fun _=>h) l
theorem oC {f:FuncId} {args:Array Value} {v:Value} (h:∀w',D w'→Calls P f args w' (fun e w''=>e=.returned v∧T w' w'')) (l:Obs P T D obs):Obs P T D (.call [] f args v::obs):=Dv (show Ob.ok P T D (.call [] f args v) from fun _=>h) l
theorem oX (o:Ob) (h:Ob.ok P T D o) (l:Obs P T D obs):Obs P T D (o::obs):=Dv h l
def Ob.gd (cs:List Cd):Ob→Ob
 | .run [] s v=>.run cs s v
 | .call [] f x v=>.call cs f x v
 | o=>o
theorem Ob.gd_ok (cs:List Cd) {o:Ob} (h:o.ok P T D):(o.gd cs).ok P T D:=by
 cases o with
 | run c s v=>cases c with
  | nil=>exact fun _=>h rfl
  | cons _ _=>exact h
 | call c f x v=>cases c with
  | nil=>exact fun _=>h rfl
  | cons _ _=>exact h
theorem oGs (cs:List Cd) {l1:List Ob} (h:Obs P T D l1) (l:Obs P T D obs):Obs P T D (l1.map (Ob.gd cs)++obs):=by
 induction l1 with
 | nil=>exact l
 | cons o r ih=>exact ⟨Ob.gd_ok cs h.1,ih h.2⟩
section
variable {α:Type} {sz n cap:Nat} {f:α→List Value} {ad:Option Addr} {l:List α}
theorem oI (t:TypeId) {i:Int} {u:α} (h:Arr w sz f ad n cap l) (hx:Bo l i=some u) (k:Obs P T D obs) (ht:K5 P t sz=true:=by kernel_rfl):Obs P T D (.run [] (Instr.indexAt t (.slice ad n cap) (.int .i64 i)) (.pointer (some (At ad i sz)))::obs):=Dv (Jc h ht fun _=>hx) k
theorem oE (t j:Nat) {i:Int} {u:α} {v:Value} (hf:∀x,(f x).length=sz) (h:∀w',D w'→Arr w' sz f ad n cap l) (hx:Bo l i=some u) (hj:(f u)[j]? = some v) (k:Obs P T D obs) (ht:Q6 P t=true:=by kernel_rfl) :
  Obs P T D (.run [] (Instr.loadAt t (.pointer (some ((At ad i sz).add j)))) v::obs):=Dv (L9 j hf h ht (fun _=>hx) hj) k
theorem oG (t j m:Nat) {i:Int} {u:α} (hf:∀x,(f x).length=sz) (h:∀w',D w'→Arr w' sz f ad n cap l) (hx:Bo l i=some u) (k:Obs P T D obs) (hg:(((f u).drop j).take m).length=m:=by kernel_rfl) (ht:N7 P t=some m:=by kernel_rfl) :
  Obs P T D (.run [] (Instr.loadAt t (.pointer (some ((At ad i sz).add j)))) (.agg (((f u).drop j).take m).toArray)::obs):=Dv (Mm j hf h ht (fun _=>hx) ⟨hg,rfl⟩) k
end
end
section
variable {P:Program} {ops:Array Oper} {D:World→Prop} {eff:List Nat} {K:Act→World→Prop} {N:Nat} {ds:List Deferred} {M M':FM} {a:Act} {w:World} {obs:List Ob} {r:Option Nat}
theorem qC {l rs rest:List Nat} (n:Nat) (nw:FM) (hF:Fr N ds M a) (hob:Obs P (fun a b=>b=a) D obs) (next:∀a',Fr N ds M' a'→WRun P r ops D eff K rest a' w) [Spt n l rs rest] [Pre nw M M'] (hl:l=rs++rest:=by rfl) (hdst:An ops N=true:=by kernel_rfl) (hne:rs.all (fun i=>!eff.contains i)=true:=by kernel_rfl) (h:EndsL P ops rs M M' obs:=by exact ⟨by kernel_rfl⟩):WRun P r ops D eff K l a w :=
 hl▸A6b rs M' hF hdst hne hob h next
theorem rC {l rs rest:List Nat} (n:Nat) (M':FM) (hF:Fr N ds M a) (hob:Obs P (fun a b=>b=a) D obs) (next:∀a',Fr N ds M' a'→WRun P r ops D eff K rest a' w) [Spt n l rs rest] (hl:l=rs++rest:=by rfl) (hdst:An ops N=true:=by kernel_rfl) (hne:rs.all (fun i=>!eff.contains i)=true:=by kernel_rfl) (h:EndsL P ops rs M M' obs:=by exact ⟨by kernel_rfl⟩):WRun P r ops D eff K l a w :=
 hl▸A6b rs M' hF hdst hne hob h next
end
section
variable {P:Program} {w:World} {f:FuncId} {fn:Func} {c:Code} {args:Array Value} {R:Ending→World→Prop} {w0:World} {H:List Res}
class Arg (i:Nat) (l:List Value) (M:outParam FM):Prop
instance {i:Nat}:Arg i [] []:=⟨⟩
instance {i:Nat} {x:Value} {l:List Value} {M:FM} [Arg (i+1) l M]:Arg i (x::l) ((i,x)::M):=⟨⟩
theorem feW (hf:P.funcs[f]? = some fn) (N:Nat) (M:FM) (hS:St w0 H w) (h:∀a w1,Fr N [] M a→St w0 H w1→WP P none c (bodyPost P fn R) a w1) (hb:fn.body=some c:=by rfl) (hN:fn.ntmps=N:=by rfl) (hsz:Nat.ble args.size N=true:=by rfl)
  (hM:M.map (fun p=>(args++Array.replicate (N-args.size) undef).getD p.1 undef)=M.map Prod.snd:=by kernel_rfl):Calls P f args w R :=
 Ys hf hb N M hN hsz hM fun a w1 e hF=>h a w1 hF (hS.cast e)
end
section
variable {P:Program} {r:Option Nat} {Q:Exit→Act→World→Prop} {K:Act→World→Prop} {N:Nat} {ds:List Deferred} {M:FM} {a:Act} {w:World}
theorem A9 {β:Type} {c:Nat} {x y:Code} {t:Bool} {u v z:β} (hF:Fr N ds M a) (h:(bif t then u else v)=z) (ht:t=true→u=z→WP P r x Q a w) (hf:t=false→v=z→WP P r y Q a w) (hl:lookM M c=some (.bool t):=by rfl):WP P r (.cond (.tmp c) x y) Q a w :=
 Gl hF hl (fun hc=>ht hc (Ez h hc)) (fun hc=>hf hc (Ey h hc))
theorem wK (h:K a w):WP P r .skip (Exit.then K Q) a w:=wpIn_skip (A3 h)
theorem Frz.ext.t {n:Nat} {μ ν ξ:Frz} (h:μ.ext n ν) (k:ν.ext n ξ):μ.ext n ξ:=Frz.ext_trans h k
theorem Frz.le.t {μ ν ξ:Frz} (h:μ.le ν) (k:ν.le ξ):μ.le ξ:=Frz.le_trans h k
end
class Spl (l:List Value) (i:Nat) (us:List Value) (l':outParam (List Value)):Prop
instance {l:List Value}:Spl l 0 [] l:=⟨⟩
instance {x u:Value} {l us l':List Value} [Spl l 0 us l']:Spl (x::l) 0 (u::us) (u::l'):=⟨⟩
instance {x:Value} {l us l':List Value} {i:Nat} [Spl l i us l']:Spl (x::l) (i+1) us (x::l'):=⟨⟩
section
variable {P:Program} {r:Option Nat} {ops:Array Oper} {Q:Exit→Act→World→Prop} {K:Act→World→Prop} {N:Nat} {ds:List Deferred} {M:FM} {a:Act} {w w0:World} {H:List Res} {k:Nat}
theorem qw (t i:Nat) (cs':Array Value) {tt:TypeId} {b:Nat} {cs:Array Value} (hF:Fr N ds M a) (hS:St w0 H w) (hi:H[i]? = some (blk b tt cs)) (next:∀w' a',Fr N ds M a'→St w0 (H.set i (blk b tt cs')) w'→K a' w') (hdst:An ops N=true:=by kernel_rfl)
  (hs:StoreAt ops k M t (.pointer (some ⟨b,0,none⟩)) (.agg cs'):=by exact ⟨by kernel_rfl⟩) (hsz:pureSem P (sizeOf t)=some (Value.agg cs').cells.size:=by kernel_rfl) (hone:(Value.agg cs').cells.toList.all Value.oneCell'=true:=by kernel_rfl) (hfit:Nat.ble (0+(Value.agg cs').cells.size) cs.size=true:=by kernel_rfl) (hcs:V3 cs 0 (Value.agg cs').cells.toList=cs':=by kernel_rfl)
  (hM:NextM ops k M undef M:=by exact ⟨by kernel_rfl⟩):SK P r ops k K a w:=P5 M i 0 (.agg cs') cs' hF hS hi hdst hs hsz hone hfit hcs hM next
theorem qBa {M':Nat→FM} (t:TypeId) (cs:Array Value) (nw:Nat→FM) (hF:Fr N ds M a) (hS:St w0 H w) (next:∀b w' a',Fr N ds (M' b) a'→St w0 (blk b t cs::H) w'→K a' w') [∀b,Pre (nw b) M (M' b)] (hdst:An ops N=true:=by kernel_rfl) (hs:EffAt ops k M (Instr.box t (.agg cs)):=by exact ⟨by kernel_rfl⟩)
  (hM:∀b,NextM ops k M (.pointer (some ⟨b,0,none⟩)) (M' b):=by exact fun _=>⟨by kernel_rfl⟩):SK P r ops k K a w:=A3x M' (.agg cs) cs hF hS hdst hs rfl hM next
theorem rBa (t:TypeId) (cs:Array Value) (M':Nat→FM) (hF:Fr N ds M a) (hS:St w0 H w) (next:∀b w' a',Fr N ds (M' b) a'→St w0 (blk b t cs::H) w'→K a' w') (hdst:An ops N=true:=by kernel_rfl) (hs:EffAt ops k M (Instr.box t (.agg cs)):=by exact ⟨by kernel_rfl⟩)
  (hM:∀b,NextM ops k M (.pointer (some ⟨b,0,none⟩)) (M' b):=by exact fun _=>⟨by kernel_rfl⟩):SK P r ops k K a w:=A3x M' (.agg cs) cs hF hS hdst hs rfl hM next
variable {α:Type} {e sz cap:Nat} {f:α→List Value} {ad:Option Addr} {l l' l3:List α}
def Z1 (f:α→List Value) (l:List α):Array (Nat×Value):=(l.zipIdx.map fun p=>(p.2,match f p.1 with|[v]=>v|us=>.agg us.toArray)).toArray
theorem qL (e t len:Nat) (l:List α) (nw:Nat→FM) {M':Nat→FM} (hf:∀x,(f x).length=sz) (hF:Fr N ds M a) (hS:St w0 H w) (next:∀b w' a',Fr N ds (M' b) a'→St w0 (arr e sz f (some ⟨b,0,none⟩) l.length len l::H) w'→K a' w') [∀b,Pre (nw b) M (M' b)] (hdst:An ops N=true:=by kernel_rfl)
  (hs:EffAt ops k M (Instr.buildSlice t len (Z1 f l)):=by exact ⟨by kernel_rfl⟩) (hb:J8 P t len (Z1 f l)=some (e,(l.flatMap f).toArray):=by kernel_rfl) (hl:l.length=len:=by rfl) (hn:Nat.ble len 16777216=true:=by kernel_rfl) (hM:∀b,NextM ops k M (.slice (some ⟨b,0,none⟩) len len) (M' b):=by exact fun _=>⟨by kernel_rfl⟩):SK P r ops k K a w :=
 Z0 M' (Z1 f l) _ l hF hS hdst hs hb hf hl rfl hn hM next
theorem rL_ (e t len:Nat) (l:List α) (M':Nat→FM) (hf:∀x,(f x).length=sz) (hF:Fr N ds M a) (hS:St w0 H w) (next:∀b w' a',Fr N ds (M' b) a'→St w0 (arr e sz f (some ⟨b,0,none⟩) l.length len l::H) w'→K a' w') (hdst:An ops N=true:=by kernel_rfl)
  (hs:EffAt ops k M (Instr.buildSlice t len (Z1 f l)):=by exact ⟨by kernel_rfl⟩) (hb:J8 P t len (Z1 f l)=some (e,(l.flatMap f).toArray):=by kernel_rfl) (hl:l.length=len:=by rfl) (hn:Nat.ble len 16777216=true:=by kernel_rfl) (hM:∀b,NextM ops k M (.slice (some ⟨b,0,none⟩) len len) (M' b):=by exact fun _=>⟨by kernel_rfl⟩):SK P r ops k K a w :=
 Z0 M' (Z1 f l) _ l hF hS hdst hs hb hf hl rfl hn hM next
theorem qP (t ty i:Nat) (nw:Option Addr→Nat→FM) {M':Option Addr→Nat→FM} {bytes scap:Nat} {sad:Option Addr} (hF:Fr N ds M a) (hS:St w0 H w) (hsrc:Arr w sz f sad l'.length scap l') (hap:apd bytes l l'=some l3) (hi:H[i]? = some (arr e sz f ad l.length cap l))
  (next:∀ad2 cap2 w' a',Fr N ds (M' ad2 cap2) a'→St w0 (H.set i (arr e sz f ad2 l3.length cap2 l3)) w'→K a' w') [∀ad2 cap2,Pre (nw ad2 cap2) M (M' ad2 cap2)] (h1:∀x∈l',(f x).all Value.oneCell'=true:=by exact fun _ _=>rfl) (hdst:An ops N=true:=by kernel_rfl)
  (hs:EffAt ops k M (Builtin.append_ #[t,t] ty #[.slice ad l.length cap,.slice sad l'.length scap]):=by exact ⟨by kernel_rfl⟩) (hty:Gz P t e sz bytes=true:=by kernel_rfl) (hM:∀ad2 cap2,NextM ops k M (.slice ad2 l3.length cap2) (M' ad2 cap2):=by exact fun _ _=>⟨by kernel_rfl⟩):SK P r ops k K a w :=
 A3w M' i hF hS hi hdst hs hty hsrc h1 hap hM next
theorem rP (t ty i:Nat) (M':Option Addr→Nat→FM) {bytes scap:Nat} {sad:Option Addr} (hF:Fr N ds M a) (hS:St w0 H w) (hsrc:Arr w sz f sad l'.length scap l') (hap:apd bytes l l'=some l3) (hi:H[i]? = some (arr e sz f ad l.length cap l))
  (next:∀ad2 cap2 w' a',Fr N ds (M' ad2 cap2) a'→St w0 (H.set i (arr e sz f ad2 l3.length cap2 l3)) w'→K a' w') (h1:∀x∈l',(f x).all Value.oneCell'=true:=by exact fun _ _=>rfl) (hdst:An ops N=true:=by kernel_rfl)
  (hs:EffAt ops k M (Builtin.append_ #[t,t] ty #[.slice ad l.length cap,.slice sad l'.length scap]):=by exact ⟨by kernel_rfl⟩) (hty:Gz P t e sz bytes=true:=by kernel_rfl) (hM:∀ad2 cap2,NextM ops k M (.slice ad2 l3.length cap2) (M' ad2 cap2):=by exact fun _ _=>⟨by kernel_rfl⟩):SK P r ops k K a w :=
 A3w M' i hF hS hi hdst hs hty hsrc h1 hap hM next
end
section
variable {P:Program} {r:Option Nat} {ops:Array Oper} {Q:Exit→Act→World→Prop} {K:Act→World→Prop} {N:Nat} {ds:List Deferred} {M M':FM} {a:Act} {w:World}
theorem qk {k:Nat} (k':Nat) (nw:FM) (hF:Fr N ds M a) (next:∀a',Fr N ds M' a'→WI P r ops Q k' a' w) [Pre nw M M'] (hdst:An ops N=true:=by kernel_rfl) (hs:SkipAt ops k M:=by exact ⟨by kernel_rfl⟩) (hM:NextM ops k M undef M':=by exact ⟨by kernel_rfl⟩) (hk:k+1=k':=by rfl):WI P r ops Q k a w:=A3q k' M' hF hdst hs hM hk next
theorem rk {k:Nat} (k':Nat) (M':FM) (hF:Fr N ds M a) (next:∀a',Fr N ds M' a'→WI P r ops Q k' a' w) (hdst:An ops N=true:=by kernel_rfl) (hs:SkipAt ops k M:=by exact ⟨by kernel_rfl⟩) (hM:NextM ops k M undef M':=by exact ⟨by kernel_rfl⟩) (hk:k+1=k':=by rfl):WI P r ops Q k a w:=A3q k' M' hF hdst hs hM hk next
variable {k:Nat} {D:World→Prop} {eff rest:List Nat}
theorem qkW (nw:FM) (hF:Fr N ds M a) (next:∀a',Fr N ds M' a'→WRun P r ops D eff K rest a' w) [Pre nw M M'] (hdst:An ops N=true:=by kernel_rfl) (hne:eff.contains k=false:=by kernel_rfl) (hs:SkipAt ops k M:=by exact ⟨by kernel_rfl⟩) (hM:NextM ops k M undef M':=by exact ⟨by kernel_rfl⟩):WRun P r ops D eff K (k::rest) a w:=A6k M' hF hdst hne hs hM next
theorem qkS (nw:FM) (hF:Fr N ds M a) (next:∀a',Fr N ds M' a'→K a' w) [Pre nw M M'] (hdst:An ops N=true:=by kernel_rfl) (hs:SkipAt ops k M:=by exact ⟨by kernel_rfl⟩) (hM:NextM ops k M undef M':=by exact ⟨by kernel_rfl⟩):SK P r ops k K a w:=A57 M' hF hdst hs hM next
end
end Go.Eng
namespace Go.Eng
open Go Go.RowKit
set_option linter.unusedVariables false
set_option linter.unusedSimpArgs false
section
variable {P:Program} {T:World→World→Prop} {D:World→Prop} {cs:List Cd} {t:Nat} {s r:ByteArray} {lo hi:Int}
end
section
variable {P:Program} {T:World→World→Prop} {D:World→Prop} {cs:List Cd} {α:Type} {n:Nat} {f:α→Value} {b:Nat} {tt:TypeId} {x:T4 α n} {lo hi:Int} {l2:List α} {w:World}
end
def orK (k:IntKind) (x y:Int):Int:=k.wrap ((BitVec.ofInt k.bits x ||| BitVec.ofInt k.bits y).toNat)
end Go.Eng
namespace Go.Eng
open Go Go.RowKit
set_option linter.unusedVariables false
set_option maxRecDepth 10000
def SlM {α:Type} (sz:Nat) (f:α→List Value) (μ:Frz) (v:Value) (l:List α):Prop:=∃ad cap,v=.slice ad l.length cap∧ArrM μ sz f ad cap l
def SlQ {α:Type} (sz:Nat) (R:Rel α) (μ:Frz) (v:Value) (l:List α):Prop:=∃ad cap css,v=.slice ad l.length cap∧ArrQ μ sz R ad cap css l
def MapS {κ ν:Type} (S:Value→ν→Prop) (Bv:List (κ×Value)) (B:List (κ×ν)):Prop:=All2 (fun (p:κ×Value) (q:κ×ν)=>p.1=q.1∧S p.2 q.2) Bv B
def MapM {κ α:Type} (sz:Nat) (f:α→List Value) (μ:Frz) (Bv:List (κ×Value)) (B:List (κ×List α)):Prop:=MapS (SlM sz f μ) Bv B
def MapQ {κ α:Type} (sz:Nat) (R:Rel α) (μ:Frz) (Bv:List (κ×Value)) (B:List (κ×List α)):Prop:=MapS (SlQ sz R μ) Bv B
section
variable {κ ν α:Type} [DecidableEq κ] {S S2:Value→ν→Prop} {Bv:List (κ×Value)} {B:List (κ×ν)} {x:κ} {v:Value} {y:ν} {μ μ':Frz}
theorem MapS.nil:MapS S ([]:List (κ×Value)) ([]:List (κ×ν)):=All2.nil
theorem MapS.imp (h:MapS S Bv B) (hs:∀v y,S v y→S2 v y):MapS S2 Bv B:=by
 unfold MapS at *
 induction h with
 | nil=>exact .nil
 | cons h _ ih=>exact .cons ⟨h.1,hs _ _ h.2⟩ ih
theorem MapS.lk (h:MapS S Bv B) (x:κ):(lkM Bv x=none∧lkM B x=none)∨∃v y,lkM Bv x=some v∧lkM B x=some y∧S v y:=by
 unfold MapS at h
 induction h with
 | nil=>exact .inl ⟨rfl,rfl⟩
 | cons h h2 ih =>
  rename_i p q bv b
  obtain ⟨e,hs⟩:=h;unfold lkM
  by_cases hx:x=p.1
  ·rw [if_pos hx,if_pos (by rw [←e];exact hx)];exact .inr ⟨_,_,rfl,rfl,hs⟩
  ·rw [if_neg hx,if_neg (by rw [←e];exact hx)];exact ih
theorem MapS.up (h:MapS S Bv B) (hs:S v y):MapS S (upM Bv x v) (upM B x y):=by
 unfold MapS at *
 induction h with
 | nil=>exact .cons ⟨rfl,hs⟩ .nil
 | cons h h2 ih =>
  rename_i p q bv b
  obtain ⟨e,hq⟩:=h;unfold upM
  by_cases hx:x=p.1
  ·rw [if_pos hx,if_pos (by rw [←e];exact hx)];exact .cons ⟨rfl,hs⟩ h2
  ·rw [if_neg hx,if_neg (by rw [←e];exact hx)];exact .cons ⟨e,hq⟩ ih
theorem SlM.mono {sz:Nat} {f:α→List Value} {l:List α} (h:SlM sz f μ v l) (hle:μ.le μ'):SlM sz f μ' v l:=by
 obtain ⟨ad,cap,rfl,h⟩:=h;exact ⟨ad,cap,rfl,h.mono hle⟩
theorem SlQ.mono {sz:Nat} {R:Rel α} {l:List α} (h:SlQ sz R μ v l) (hR:R.Mono) (hle:μ.le μ'):SlQ sz R μ' v l:=by
 obtain ⟨ad,cap,css,rfl,h⟩:=h;exact ⟨ad,cap,css,rfl,h.mono hR hle⟩
theorem MapM.mono {sz:Nat} {f:α→List Value} {B:List (κ×List α)} (h:MapM sz f μ Bv B) (hle:μ.le μ'):MapM sz f μ' Bv B:=MapS.imp h fun _ _ h=>h.mono hle
theorem MapQ.mono {sz:Nat} {R:Rel α} {B:List (κ×List α)} (h:MapQ sz R μ Bv B) (hR:R.Mono) (hle:μ.le μ'):MapQ sz R μ' Bv B:=MapS.imp h fun _ _ h=>h.mono hR hle
end
section
variable {P:Program} {r:Option Nat} {ops:Array Oper} {K:Act→World→Prop} {N:Nat} {ds:List Deferred} {M:List (Nat×Value)} {a:Act} {w0 w w':World} {k:Nat} {H:List Res}
variable {κ ν α:Type} [DecidableEq κ] {kt e t:TypeId} {kf:κ→Value} {vf:ν→Value} {m:Nat} {B:List (κ×ν)} {x:κ} {v d:ν}
theorem Rd (M':List (Nat×Value)) (i:Nat) (x:κ) (d:ν) (hk:KeyOk P kt kf) (hF:Fr N ds M a) (hS:St w0 H w) (hi:H[i]? = some (A0 kf vf m B)) (hdst:An ops N=true) (hs:EffM ops k M (Instr.lookup t (.map (some m)) (kf x) true)) (ht:Qt P t kt e=true)
  (hz:(P.info? e).bind (·.zero)=some (vf d)) (hM:NextM ops k M (.tuple #[vf ((lkM B x).getD d),.bool (lkM B x).isSome]) M') (next:∀a',Fr N ds M' a'→K a' w):SK P r ops k K a w:=by
 obtain ⟨es,clock,h1,h2,h3⟩:=hS.res hi;refine A05 hF hdst hs ?_ hM next
 obtain ⟨q,q1,q2,q3,q4⟩:=Ug hk x h2;have hq:=q1 w;have hc:=B3 _ _ (hk.ck es.isEmpty x) w;have hg:=MapKept.run_getObj_map (P:=P) h1
 cases hii:P.info? e with
 | none=>rw [hii] at hz;simp at hz
 | some inf =>
  rw [hii] at hz;simp at hz
  cases q with
  | some p =>
   obtain ⟨v,e1,e2⟩:=q3 p rfl;obtain ⟨j,u⟩:=p;have e2:u=vf v:=e2;subst e2;rw [e1];simp [Instr.lookup,run_underlying (Jb ht),hg,hc,hq,zeroValue,typeInfo,hii,hz]
  | none =>
   have e1:=q4 rfl;simp [Instr.lookup,run_underlying (Jb ht),hg,hc,hq,e1,zeroValue,typeInfo,hii,hz]
theorem A0p (M':Value→List (Nat×Value)) (i:Nat) (x:κ) {S:Value→List α→Prop} {Bv:List (κ×Value)} {B:List (κ×List α)} (hk:KeyOk P kt kf) (hq:MapS S Bv B) (h0:S (.slice none 0 0) []) (hF:Fr N ds M a) (hS:St w0 H w) (hi:H[i]? = some (A0 kf (fun v=>v) m Bv)) (hdst:An ops N=true)
  (hs:EffM ops k M (Instr.lookup t (.map (some m)) (kf x) true)) (ht:Qt P t kt e=true) (hz:(P.info? e).bind (·.zero)=some (.slice none 0 0)) (hM:∀v,NextM ops k M (.tuple #[v,.bool (lkM B x).isSome]) (M' v))
  (next:∀v a',Fr N ds (M' v) a'→S v ((lkM B x).getD [])→K a' w):SK P r ops k K a w:=by
 have hl:=hq.lk x;have key:(lkM Bv x).isSome=(lkM B x).isSome∧S ((lkM Bv x).getD (.slice none 0 0)) ((lkM B x).getD []):=by
  rcases hl with ⟨h1,h2⟩|⟨v,y,h1,h2,h3⟩
  ·rw [h1,h2];exact ⟨rfl,h0⟩
  ·rw [h1,h2];exact ⟨rfl,h3⟩
 refine Rd (e:=e) (M' ((lkM Bv x).getD (.slice none 0 0))) i x (.slice none 0 0) hk hF hS hi hdst hs ht hz ?_ fun a' hF'=>next _ a' hF' key.2
 rw [key.1];exact hM _
theorem Jl (M':Value→List (Nat×Value)) (i:Nat) (x:κ) {S:Value→List α→Prop} {Bv:List (κ×Value)} {B:List (κ×List α)} (hk:KeyOk P kt kf) (hq:MapS S Bv B) (h0:S (.slice none 0 0) []) (hF:Fr N ds M a) (hS:St w0 H w) (hi:H[i]? = some (A0 kf (fun v=>v) m Bv)) (hdst:An ops N=true)
  (hs:EffM ops k M (Instr.lookup t (.map (some m)) (kf x) false)) (ht:Qt P t kt e=true) (hz:(P.info? e).bind (·.zero)=some (.slice none 0 0)) (hM:∀v,NextM ops k M v (M' v))
  (next:∀v a',Fr N ds (M' v) a'→S v ((lkM B x).getD [])→K a' w):SK P r ops k K a w:=by
 have hl:=hq.lk x;have key:S ((lkM Bv x).getD (.slice none 0 0)) ((lkM B x).getD []):=by
  rcases hl with ⟨h1,h2⟩|⟨v,y,h1,h2,h3⟩
  ·rw [h1,h2];exact h0
  ·rw [h1,h2];exact h3
 exact Mb (e:=e) (M' ((lkM Bv x).getD (.slice none 0 0))) i x (.slice none 0 0) hk hF hS hi hdst hs ht hz (hM _) fun a' hF'=>next _ a' hF' key
end
def Y4 {ε ρ:Type} (res:Except ε ρ) (A:ρ→Prop) (B:ε→Prop):Prop:=(∃r,res=.ok r∧A r)∨∃e,res=.error e∧B e
end Go.Eng
namespace Go.Eng
open Go Go.RowKit
set_option linter.unusedVariables false
set_option linter.unusedSimpArgs false
set_option maxRecDepth 10000
def obSem (ρ:Operand→Value):Op→Option (Sem Value)
 | .binOp .shr t x y _=>some (binOp .shr t (ρ x) (ρ y))
 | .binOp .shl t x y _=>some (binOp .shl t (ρ x) (ρ y))
 | o=>Ql ρ o
theorem Z3 {P:Program} {ρ:Operand→Value} {o:Oper} {s:Sem Value} {v:Value} {w:World} (h:obSem ρ o.op=some s) (hr:s.run P w=.ok v w):(execOp ρ o).run P w=.ok (.value v) w:=by
 unfold obSem at h
 split at h
 ·rename_i t x y z hop
  unfold execOp;rw [hop]
  cases h
  simp [hr,eqGuard]
 ·rename_i t x y z hop
  unfold execOp;rw [hop]
  cases h
  simp [hr,eqGuard]
 ·exact (Rq h hr).2
structure ObAt (ops:Array Oper) (k:Nat) (M:List (Nat×Value)) (s:Sem Value):Prop where
 eq:((plainAt ops k M).bind fun o=>obSem (rhoE (ofM M)) o.op)=some s
section
variable {P:Program} {r:Option Nat} {ops:Array Oper} {K:Act→World→Prop} {N:Nat} {ds:List Deferred} {M:List (Nat×Value)} {a:Act} {w:World} {k:Nat} {s:Sem Value} {v:Value} {T:World→World→Prop}
theorem obK (M':List (Nat×Value)) (hF:Fr N ds M a) (hdst:An ops N=true) (hs:ObAt ops k M s) (ho:Ob.ok P T (fun w'=>w'=w) (.run [] s v)) (hM:NextM ops k M v M') (next:∀a',Fr N ds M' a'→K a' w):SK P r ops k K a w:=by
 have hs:=hs.eq
 cases hp:plainAt ops k M with
 | none=>rw [hp] at hs;simp at hs
 | some o =>
  rw [hp] at hs;exact Wb hF hdst hp (Z3 hs (ho rfl w rfl)) hM next
end
section
variable {P:Program} {T:World→World→Prop} {D:World→Prop} {cs:List Cd} {α:Type} {n:Nat} {f:α→Value} {x:T4 α n} {i:Int} {u:α}
end
end Go.Eng
namespace Go.Eng
open Go Go.RowKit
set_option linter.unusedVariables false
set_option linter.unusedSimpArgs false
def TabM (P:Program) (name:String) (k:IntKind) (zs:List Int) (μ:Frz):Prop:=∀w,FrzAt μ w→Lib.TabIs P w name k zs
theorem TabM.mono {P:Program} {name:String} {k:IntKind} {zs:List Int} {μ ν:Frz} (h:TabM P name k zs μ) (hle:μ.le ν):TabM P name k zs ν:=fun w hw=>h w (hw.low hle)
theorem A59 {P:Program} {kt:TypeId} (h1:∀em x,pureSem P (Instr.checkKey em 10000 kt (Value.string x))=some ()) (hu:pureSem P (underlying kt)=some .string):KeyOk P kt Value.string:=by
 refine KeyNow.ok ⟨h1,fun x=>?_,fun x y=>?_,by rw [hu];rfl⟩
 ·unfold Instr.sameBits;exact (MapKept.bytes_beq x x).2 rfl
 ·rw [hu];show some (x==y)=some (decide (x=y))
  congr 1
  rw [Bool.eq_iff_iff,MapKept.bytes_beq,decide_eq_true_iff]
section
variable {P:Program} (w:World)
end
end Go.Eng
namespace Go.Eng
open Go Go.RowKit
section
variable {F:Fence} {n:Nat} {P:Program} {Q:Exit→Act→World→Prop} {a:Act} {w:World}
theorem Jq {b:Frame} {k:List Item} {cs:List Frame} {c:Code}:step P (lone (b.atR a (.code (.scope c)::k)) cs w)=.next (lone (b.atR a (.code c::.inScope c::k)) cs w) :=
 step_lone_go (by simp [stepG,stepG.exec,Frame.atR])
theorem Ta {b:Frame} {k:List Item} {cs:List Frame} {c:Code}:step P (lone (b.atR a (.inScope c::k)) cs w)=.next (lone (b.atR a k) cs w) :=
 step_lone_go (by simp [stepG,stepG.exec,Frame.atR])
theorem Xr {c:Code} (h:c.wpIn F n P (Exit.noGoto Q) a w):(Code.scope c).wpIn F n P Q a w:=by
 intro b k cs hro hb hr;have h0:(lone (b.atR a (.code (.scope c)::k)) cs w).fenced P F:=fenced_calm hb hr rfl;obtain ⟨e,a₁,w₁,hq,harr⟩:=h b (.inScope c::k) cs hro hb hr
 cases e with
 | normal=>exact ⟨.normal,a₁,w₁,hq,.head h0 Jq (StepsIn.trans harr (.one (fenced_calm hb hr rfl) Ta))⟩
 | exit id =>
  have hx:exitTo id (.inScope c::k)=exitTo id k:=by simp [exitTo]
  exact ⟨.exit id,a₁,w₁,hq,fun k' hk=>.head h0 Jq (harr.1 k' (by rw [hx];exact hk)),
   fun hr' hk=>let ⟨k₁,h1,h2⟩:=harr.2 hr' (by rw [hx];exact hk);⟨k₁,h1,.head h0 Jq h2⟩⟩
 | goto l=>exact hq.elim
 | ret=>exact ⟨_,a₁,w₁,hq,.of_steps (.one h0 Jq) harr⟩
 | panic ch=>exact ⟨_,a₁,w₁,hq,.of_steps (.one h0 Jq) harr⟩
 | outgrown=>exact ⟨_,a₁,w₁,hq,.of_steps (.one h0 Jq) harr⟩
theorem Xc (h:Q .normal a w):Exit.noGoto Q .normal a w:=h
end
def elP (ad:Option Addr) (x:Int) (sz:Nat):Option Addr:=if x<0 then none else some (At ad x sz)
theorem Y5 {ad:Option Addr} {x:Int} {sz:Nat} (h:decide (x<0)=true):elP ad x sz=none:=if_pos (of_decide_eq_true h)
theorem Y6 {ad:Option Addr} {x:Int} {sz:Nat} (h:decide (x<0)=false):elP ad x sz=some (At ad x sz):=if_neg (of_decide_eq_false h)
theorem Uf {α:Type} {l:List α} {u:α} {ad:Option Addr} {x:Int} {sz:Nat} (h:Bo l x=some u):elP ad x sz=some (At ad x sz):=by
 unfold Bo at h
 by_cases c:0≤x
 ·exact if_neg (by omega)
 ·rw [if_neg c] at h;cases h
def Rh (a b:ByteArray):Bool:=Op.bytesLess a.toList b.toList
def Qy (a b:ByteArray):Bool:=!(Op.bytesLess a.toList b.toList||a.toList==b.toList)
def A1b (k:IntKind) (x y:Int):Option Int:=if 0≤y then some (k.wrap (x*2 ^ min y.toNat k.bits)) else none
theorem A4s {P:Program} {T:World→World→Prop} {D:World→Prop} {cs:List Cd} {t:TypeId} {k yk:IntKind} {x y z:Int} (hx:B8 cs=true→A1b k x y=some z):Ob.ok P T D (.run cs (binOp .shl t (.int k x) (.int yk y)) (.int k z)):=by
 intro hk w _;have h:=hx hk;unfold A1b at h
 split at h
 ·rename_i h0
  cases h
  have h1:¬y<0:=by omega
  simp [binOp,Op.shift,h1]
 ·cases h
end Go.Eng
namespace Go.Eng
open Go Go.RowKit
open Go.ChangeMaps (setBlock)
set_option linter.unusedVariables false
def Sr {κ ν:Type} (kf:κ→Value) (vf:ν→Value) (m:Nat) (B:List (κ×ν)) (bs:List Nat) (c:Nat):Res where
 foot:=fun k=>k=m
 holds:=fun w=>∃es:List MapEntry,w.heap[m]? = some (.map es.toArray c)∧Se kf vf es B∧es.map (·.born)=bs∧(∀b∈bs,b<c)∧bs.Nodup
 loc:=fun w w' h hb=>by
  obtain ⟨es,h1,h2⟩:=hb;exact ⟨es,(h m rfl).trans h1,h2⟩
 lt:=fun w k hb hk=>by
  subst hk;obtain ⟨es,h1,_⟩:=hb;exact (Array.getElem?_eq_some_iff.1 h1).1
section
variable {P:Program} {w w0 w':World} {H:List Res} {κ ν:Type} {kf:κ→Value} {vf:ν→Value} {m i:Nat} {B:List (κ×ν)} {bs:List Nat} {c:Nat}
theorem St.mapOpen (h:St w0 H w) (hi:H[i]? = some (A0 kf vf m B)):∃bs c,bs.length=B.length∧(∀b∈bs,b<c)∧bs.Nodup∧St w0 (H.set i (Sr kf vf m B bs c)) w:=by
 obtain ⟨es,c,h1,h2,h3,h4⟩:=h.res hi;have hb:∀b∈es.map (·.born),b<c:=fun b hb=>by
  obtain ⟨e,he,rfl⟩:=List.mem_map.1 hb;exact h3 e he
 have hn:(es.map (·.born)).Nodup:=List.pairwise_map.2 h4;refine ⟨es.map (·.born),c,by rw [List.length_map,h2.len],hb,hn,h.upd hi rfl rfl rfl (Nat.le_refl _) (fun _ _ _=>rfl) ⟨es,h1,h2,rfl,hb,hn⟩ (fun k hk=>.inl hk)⟩
theorem St.mapShut (h:St w0 H w) (hi:H[i]? = some (Sr kf vf m B bs c)):St w0 (H.set i (A0 kf vf m B)) w:=by
 obtain ⟨es,h1,h2,rfl,h3,h4⟩:=h.res hi;exact h.upd hi rfl rfl rfl (Nat.le_refl _) (fun _ _ _=>rfl) ⟨es,c,h1,h2,fun e he=>h3 _ (List.mem_map.2 ⟨e,he,rfl⟩),List.pairwise_map.1 h4⟩ (fun k hk=>.inl hk)
end
def effSemN (ρ:Operand→Value) (op:Op) (ty:TypeId):Option (Sem Value) :=
 match op with
 | .range t x=>some (Instr.range t (ρ x))
 | .next it s=>some (Instr.next (ρ it) s ty)
 | .entry it=>some (Instr.entry (ρ it))
 | _=>none
theorem Vk {P:Program} {ρ:Operand→Value} {o:Oper} {s:Sem Value} {v:Value} {w w':World} (h:effSemN ρ o.op o.type=some s) (hr:s.run P w=.ok v w'):(execOp ρ o).run P w=.ok (.value v) w':=by
 unfold effSemN at h;unfold execOp
 split at h<;>rename_i hop<;>simp only [Option.some.injEq,reduceCtorEq] at h<;>(try subst h)<;>rw [hop]<;>simp [hr]
structure EffN (ops:Array Oper) (k:Nat) (M:List (Nat×Value)) (s:Sem Value):Prop where
 eq:((plainAt ops k M).bind fun o=>effSemN (rhoE (ofM M)) o.op o.type)=some s
section
variable {P:Program} {r:Option Nat} {ops:Array Oper} {K:Act→World→Prop} {N:Nat} {ds:List Deferred} {M M':List (Nat×Value)} {a:Act} {w0 w w':World} {k:Nat} {H:List Res} {κ ν:Type} [DecidableEq κ] {kt e t:TypeId} {kf:κ→Value} {vf:ν→Value} {m:Nat} {B:List (κ×ν)} {bs:List Nat} {c:Nat}
theorem Y3 {s:Sem Value} {v:Value} (hF:Fr N ds M a) (hdst:An ops N=true) (hs:EffN ops k M s) (hr:s.run P w=.ok v w')
  (hM:NextM ops k M v M') (next:∀a',Fr N ds M' a'→K a' w'):SK P r ops k K a w:=by
 have hs:=hs.eq
 cases ho:plainAt ops k M with
 | none=>rw [ho] at hs;simp at hs
 | some o =>
  rw [ho] at hs;exact Wb hF hdst ho (Vk hs hr) hM next
def itR (r m since:Nat) (seen:List Nat) (c0:Nat):Res:=J1 r (.mapIter (some m) since seen.toArray c0)
theorem A4z {M':Nat→List (Nat×Value)} (i:Nat) (hF:Fr N ds M a) (hS:St w0 H w) (hi:H[i]? = some (Sr kf vf m B bs c)) (hdst:An ops N=true) (hs:EffN ops k M (Instr.range t (.map (some m)))) (ht:Qt P t kt e=true)
  (hM:∀b,NextM ops k M (.pointer (some ⟨b,0,none⟩)) (M' b)) (next:∀b w' a',Fr N ds (M' b) a'→St w0 (itR b m c [] c::H) w'→K a' w'):SK P r ops k K a w:=by
 obtain ⟨es,h1,h2,h3,h4,h5⟩:=hS.res hi;exact Y3 hF hdst hs (run_range_map w t kt e m es.toArray c (Jb ht) h1) (hM _) fun a' hF'=>next _ _ a' hF' (hS.allocObj _)
theorem A5u {M0:List (Nat×Value)} {M1:κ→ν→List (Nat×Value)} (i j:Nat) {q since c0:Nat} {seen:List Nat} (hF:Fr N ds M a) (hS:St w0 H w) (hi:H[i]? = some (itR q m since seen c0)) (hj:H[j]? = some (Sr kf vf m B bs c)) (hdst:An ops N=true) {ty:TypeId}
  (hs:EffN ops k M (Instr.next (.pointer (some ⟨q,0,none⟩)) false ty)) (hold:∀b∈bs,b<since) (hsc:since≤c0) (hM0:NextM ops k M (.tuple #[.bool false]) M0) (hM1:∀x y,NextM ops k M (.tuple #[.bool true,kf x,vf y]) (M1 x y))
  (over:(∀b∈bs,b∈seen)→∀a',Fr N ds M0 a'→K a' w)
  (more:∀(n:Nat) (p:κ×ν) (b:Nat),B[n]? = some p→bs[n]? = some b→b∉seen→∀w' a',Fr N ds (M1 p.1 p.2) a'→St w0 (H.set i (itR q m since (seen++[b]) c)) w'→K a' w'):SK P r ops k K a w:=by
 obtain ⟨es,h1,h2,h3,h4,h5⟩:=hS.res hj;have hr:w.heap[q]? = some (.mapIter (some m) since seen.toArray c0):=hS.res hi;have hol:∀x∈es.toArray.toList,x.born<since:=fun x hx=>hold _ (by rw [←h3];exact List.mem_map.2 ⟨x,by simpa using hx,rfl⟩);rcases run_next_at (P:=P) w ty q m since c0 seen.toArray es.toArray c hr h1 hol hsc with ⟨hz,hrun⟩|⟨en,hen,w1,hw1,hrun⟩
 ·refine Y3 hF hdst hs hrun hM0 fun a' hF'=>over ?_ a' hF';intro b hb;rw [←h3] at hb;obtain ⟨x,hx,rfl⟩:=List.mem_map.1 hb;refine Classical.byContradiction fun hc=>?_;have:x∈(leftOf es.toArray seen.toArray).toList:=by
   unfold leftOf;simp only [Array.toList_filter,List.mem_filter];exact ⟨by simpa using hx,by simpa using hc⟩
  have h0:(leftOf es.toArray seen.toArray).toList=[]:=by
   have:=Array.eq_empty_of_size_eq_zero hz;rw [this]
  rw [h0] at this
  cases this
 ·unfold leftOf at hen;simp only [Array.toList_filter,List.mem_filter] at hen;obtain ⟨hm,hsn⟩:=hen;obtain ⟨n,hn⟩:=List.mem_iff_getElem?.1 hm;have hb:bs[n]? = some en.born:=by rw [←h3,List.getElem?_map,hn];rfl
  have hBl:n<B.length:=by rw [←h2.len];exact (List.getElem?_eq_some_iff.1 hn).1
  obtain ⟨p,hp⟩:∃p,B[n]? = some p:=⟨B[n],List.getElem?_eq_getElem hBl⟩;obtain ⟨e',he',hk,hv⟩:=Rz h2 hp;have:e'=en:=by
   have h6:es[n]? = some en:=hn;rw [h6] at he';exact (Option.some.inj he').symm
  subst this;rw [hk,hv] at hrun;have hS1:St w0 H w1:=by
   rcases hw1 with rfl|rfl
   ·exact hS
   ·exact hS.later (Ju w)
  have hset:(seen.toArray.push e'.born)=(seen++[e'.born]).toArray:=by simp
  rw [hset] at hrun;refine Y3 hF hdst hs hrun (hM1 p.1 p.2) fun a' hF'=>more n p _ hp hb (by simpa using hsn) _ a' hF' ?_;have:=hS1.putObj (i:=i) (.mapIter (some m) since (seen++[e'.born]).toArray c) hi;exact this
theorem A46 (i j:Nat) {q since n b:Nat} {seen:List Nat} {p:κ×ν} (hF:Fr N ds M a) (hS:St w0 H w) (hi:H[i]? = some (itR q m since (seen++[b]) c)) (hj:H[j]? = some (Sr kf vf m B bs c)) (hdst:An ops N=true)
  (hs:EffN ops k M (Instr.entry (.pointer (some ⟨q,0,none⟩)))) (hB:B[n]? = some p) (hb:bs[n]? = some b) (hM:NextM ops k M (.tuple #[kf p.1,vf p.2]) M') (next:∀a',Fr N ds M' a'→K a' w):SK P r ops k K a w:=by
 obtain ⟨es,h1,h2,h3,h4,h5⟩:=hS.res hj;have hr:w.heap[q]? = some (.mapIter (some m) since (seen++[b]).toArray c):=hS.res hi;obtain ⟨e,he,hk,hv⟩:=Rz h2 hB;have hbo:e.born=b:=by
  rw [←h3,List.getElem?_map,he] at hb;exact Option.some.inj hb
 have hset:(seen++[b]).toArray=seen.toArray.push e.born:=by rw [hbo];simp
 rw [hset] at hr;have hrun:=run_entry_at (P:=P) w q m since seen.toArray es.toArray c e hr h1 (by simpa using List.mem_of_getElem? he) (by simpa using (h3▸h5));rw [hk,hv] at hrun;exact Y3 hF hdst hs hrun hM next
end
section
variable {P:Program} {r:Option Nat} {ops:Array Oper} {Q:Exit→Act→World→Prop} {N:Nat} {ds:List Deferred} {M:List (Nat×Value)} {a:Act} {w:World} {obs:List Ob}
theorem A6d {id:Nat} (m:Nat) (M':List (Nat×En)) (hmo:P.follows .mixedOrders=true) (hF:Fr N ds M a) (hck:(An ops N&&Jm ops m&&Fa ops m&&Dn ops&&Nat.ble m ops.size)=true) (hob:Obs P Ext (Ext w) obs)
  (h:EndsC P ops m 0 M M' obs) (hC:(M'.all fun p=>B8 p.2.conds)=true) (next:∀a' w',Fr N ds (M'.map fun p=>(p.1,p.2.v)) a'→Ext w w'→WI P r ops Q m a' w'):WP P r (.region id ops true) Q a w:=by
 rw [Bool.and_eq_true,Bool.and_eq_true,Bool.and_eq_true,Bool.and_eq_true] at hck;obtain ⟨⟨⟨⟨h1,h2⟩,h3⟩,h4⟩,h5⟩:=hck;have hw1:=Ju w;obtain ⟨Φ,hl,hseg,hst,hfin⟩:=Sd (r:=r) (N:=N) (ds:=ds) Pm h hC (Ext w) hob;refine Q8 (fun _ _ h k=>Ext.trans h k) hmo h1 h2 h3 h4 hl (Nat.le_of_ble_eq_true h5) hseg hst (Lz _ _) hF.size (Ji hF _) hw1 ?_;intro a' w' hw hN hd hE;exact next a' w' (hfin a' w' hN (hd.trans hF.defers) hE) hw
end
def mk0 (B:Nat) (n:Int):Option Nat:=if 0≤n∧B*n.toNat≤281474976710656∧n≤9223372036854775807 then some n.toNat else none
theorem A0r {B c:Nat} {n:Int} (h:mk0 B n=some c):n=(c:Int)∧B*c≤281474976710656∧c≤maxLen:=by
 unfold mk0 at h
 split at h
 ·rename_i hc
  cases h
  refine ⟨by omega,hc.2.1,?_⟩;simp [maxLen];omega
 ·cases h
section
variable {P:Program} {r:Option Nat} {ops:Array Oper} {K:Act→World→Prop} {N k:Nat} {ds:List Deferred} {M:List (Nat×Value)} {a:Act} {w w0:World} {H:List Res} {α:Type} {e sz:Nat}
theorem A4e (f:α→List Value) (M':Nat→List (Nat×Value)) {t bytes c:Nat} {n:Int} {z:Value} (hF:Fr N ds M a) (hS:St w0 H w) (hdst:An ops N=true) (hs:EffAt ops k M (Instr.makeSlice t (.int .i64 0) (.int .i64 n)))
  (hty:Gz P t e sz bytes=true) (hz:(P.info? e).bind (·.zero)=some z) (hmk:mk0 bytes n=some c) (hM:∀b,NextM ops k M (.slice (some ⟨b,0,none⟩) 0 c) (M' b))
  (next:∀b w' a',Fr N ds (M' b) a'→St w0 (arr e sz f (some ⟨b,0,none⟩) 0 c ([]:List α)::H) w'→K a' w'):SK P r ops k K a w:=by
 obtain ⟨rfl,hb,h63⟩:=A0r hmk;obtain ⟨i,z',ht,hi,hz',h1,rfl,hzs,_⟩:=Fs hty;obtain ⟨w',hr,hown,hg⟩:=run_make_own (P:=P) w 0 t e i z' sz ht hi hz' h1 .i64 .i64 c hb h63 (Nat.zero_le _);have hx:Ext w w':=⟨hg.os,hg.tape,hg.output,hg.size,fun j hj=>hg.block j hj (by simp)⟩;refine T6 hF hdst hs hr (hM w.heap.size) ?_;intro a' hF';exact next _ w' a' hF' (hS.push hx ⟨rfl,hown⟩ (fun b hb=>by simp [Go.Eng.arr,Value.ownBlock] at hb;omega))
end
section
variable {P:Program} {r:Option Nat} {ops:Array Oper} {Q:Exit→Act→World→Prop} {N:Nat} {ds:List Deferred} {M M':List (Nat×Value)} {a:Act} {w:World} {obs:List Ob}
theorem A6e {id:Nat} (m:Nat) (M':List (Nat×Value)) (hmo:P.follows .mixedOrders=true) (hF:Fr N ds M a) (hck:(An ops N&&Jm ops m&&Fa ops m&&Dn ops&&Nat.ble m ops.size)=true)
  (hob:Obs P (fun a b=>b=a) (fun x=>x={ w with drawn:=w.drawn+1 }) obs)
  (h:Ends P ops m 0 M M' obs) (next:∀a',Fr N ds M' a'→WI P r ops Q m a' { w with drawn:=w.drawn+1 }):WP P r (.region id ops true) Q a w:=by
 rw [Bool.and_eq_true,Bool.and_eq_true,Bool.and_eq_true,Bool.and_eq_true] at hck;obtain ⟨⟨⟨⟨h1,h2⟩,h3⟩,h4⟩,h5⟩:=hck;obtain ⟨Φ,hl,hseg,hst,hfin⟩:=Pd (r:=r) (N:=N) (ds:=ds) N5 h (fun x=>x={ w with drawn:=w.drawn+1 }) hob;refine Q8 (D:=fun x=>x={ w with drawn:=w.drawn+1 }) (fun _ _ h k=>k.trans h) hmo h1 h2 h3 h4 hl (Nat.le_of_ble_eq_true h5) hseg hst (Lz _ _) hF.size (Ji hF _) rfl ?_;intro a' w' hw hN hd hE;subst hw;exact next a' (hfin a' _ hN (hd.trans hF.defers) hE)
end
end Go.Eng
namespace Go.Eng
open Go Go.RowKit
set_option linter.unusedVariables false
theorem T2 {α:Type} {f:α→List Value} {sz:Nat} (hf:∀x,(f x).length=sz) (h0:0<sz) (z:α) (n:Nat):(Builtin.zeroCells (f z).toArray n).toList=(List.replicate n z).flatMap f:=by
 have hl:((List.replicate n z).flatMap f).length=n*sz:=by rw [D3 hf];simp
 apply List.ext_getElem?;intro q;unfold Builtin.zeroCells
 by_cases hq:q<n*sz
 ·have hi:q/sz<n:=Nat.div_lt_of_lt_mul (by rwa [Nat.mul_comm]);have hg:(List.replicate n z)[q/sz]? = some z:=by rw [List.getElem?_replicate,if_pos hi]
  have hm:q%sz<sz:=Nat.mod_lt _ h0;have h:=Mx hf (List.replicate n z) (q/sz) (q%sz) z hg hm;rw [Nat.div_add_mod'] at h;rw [h];have hx:(f z)[q%sz]? = some ((f z)[q%sz]'(by rw [hf];exact hm)):=List.getElem?_eq_getElem _;rw [hx];simp [hf,hq,hm]
 ·rw [List.getElem?_eq_none (l:=(List.replicate n z).flatMap f) (show ((List.replicate n z).flatMap f).length≤q by rw [hl];omega)];exact List.getElem?_eq_none (by simp [hf];omega)
def effSemC (ρ:Operand→Value) (op:Op) (ty:TypeId):Option (Sem Value) :=
 match op with
 | .call { callee:=.builtin .clear,args,argTypes }=>some (Builtin.clear_ argTypes ty (args.map ρ))
 | _=>none
theorem Vi {P:Program} {ρ:Operand→Value} {o:Oper} {s:Sem Value} {v:Value} {w w':World} (h:effSemC ρ o.op o.type=some s) (hr:s.run P w=.ok v w'):(execOp ρ o).run P w=.ok (.value v) w':=by
 unfold effSemC at h;unfold execOp
 split at h<;>rename_i hop<;>simp only [Option.some.injEq,reduceCtorEq] at h<;>(try subst h)<;>rw [hop]<;>simp [hr,resolve,invoke,builtin]
structure EffC (ops:Array Oper) (k:Nat) (M:List (Nat×Value)) (s:Sem Value):Prop where
 eq:((plainAt ops k M).bind fun o=>effSemC (rhoE (ofM M)) o.op o.type)=some s
section
variable {P:Program} {r:Option Nat} {ops:Array Oper} {K:Act→World→Prop} {N:Nat} {ds:List Deferred} {M M':List (Nat×Value)} {a:Act} {w0 w w':World} {k:Nat} {H:List Res} {α:Type} {e sz cap:Nat} {f:α→List Value} {ad:Option Addr} {l:List α}
theorem A3l {s:Sem Value} {v:Value} (hF:Fr N ds M a) (hdst:An ops N=true) (hs:EffC ops k M s) (hr:s.run P w=.ok v w')
  (hM:NextM ops k M v M') (next:∀a',Fr N ds M' a'→K a' w'):SK P r ops k K a w:=by
 have hs:=hs.eq
 cases ho:plainAt ops k M with
 | none=>rw [ho] at hs;simp at hs
 | some o =>
  rw [ho] at hs;exact Wb hF hdst ho (Vi hs hr) hM next
theorem Zw (M':List (Nat×Value)) (i:Nat) {t ty:TypeId} {k0:Nat} (z:α) {zv:Value} (hk:k0≤l.length) (hf:∀x,(f x).length=sz) (h0:0<sz) (hF:Fr N ds M a) (hS:St w0 H w) (hi:H[i]? = some (arr e sz f ad l.length cap l)) (hdst:An ops N=true)
  (hs:EffC ops k M (Builtin.clear_ #[t] ty #[.slice (Cs ad cap k0 sz) (l.length-k0) (cap-k0)])) (ht:P.underlying t=some (.slice e)) (hz:pureSem P (zeroValue e)=some zv) (hzc:zv.cells=(f z).toArray) (hone:(f z).all Value.oneCell'=true) (hM:NextM ops k M (.tuple #[]) M')
  (next:∀w' a',Fr N ds M' a'→St w0 (H.set i (arr e sz f ad l.length cap (l.take k0++List.replicate (l.length-k0) z))) w'→K a' w'):SK P r ops k K a w:=by
 have hold:=hS.holds _ (List.mem_of_getElem? hi)
 by_cases hz0:l.length-k0=0
 ·have hr:(Builtin.clear_ #[t] ty #[.slice (Cs ad cap k0 sz) (l.length-k0) (cap-k0)]).run P w=.ok (.tuple #[]) w:=by
   rw [hz0]
   cases Cs ad cap k0 sz<;>simp [Builtin.clear_,run_underlying ht]
  refine A3l hF hdst hs hr hM fun a' hF'=>next _ a' hF' ?_
  have e1:l.take k0++List.replicate (l.length-k0) z=l:=by rw [hz0,List.take_of_length_le (by omega)];simp
  rw [e1];have:H.set i (arr e sz f ad l.length cap l)=H:=by
   obtain ⟨hlt,he⟩:=List.getElem?_eq_some_iff.1 hi;rw [←he];exact List.set_getElem_self hlt
  rw [this];exact hS
 ·rcases hold.2.2 with ⟨h',hzz⟩|⟨g,cap',cur,h',hbase,hg,hnc,hcm,hcs,htake⟩
  ·have:l.length=0:=hzz;omega
  ·simp only [Value.slice.injEq,true_and] at h';obtain ⟨rfl,rfl⟩:=h';have hso:Cs (some ⟨g,0,none⟩) cap k0 sz=some ⟨g,k0*sz,none⟩:=by
    unfold Cs;rw [if_neg (by omega)];simp [Addr.add];intro h;exact h.symm
   have hcap:l.length*sz≤cap*sz:=Nat.mul_le_mul_right sz hnc;have hkl:k0*sz+(l.length-k0)*sz=l.length*sz:=by rw [←Nat.add_mul];congr 1;omega
   have hzl:((List.replicate (l.length-k0) z).flatMap f).length=(l.length-k0)*sz:=by rw [D3 hf];simp
   have hall:∀v∈(List.replicate (l.length-k0) z).flatMap f,v.oneCell'=true:=fun v hv=>by
    obtain ⟨x,hx,hv⟩:=List.mem_flatMap.1 hv;rw [List.eq_of_mem_replicate hx] at hv;exact List.all_eq_true.1 hone v hv
   have hst:=run_storeCells_at P g (k0*sz) e ((List.replicate (l.length-k0) z).flatMap f) 0 cur w hg (by rw [hzl];omega) hall;simp only [Nat.add_zero] at hst;have hr:(Builtin.clear_ #[t] ty #[.slice (Cs (some ⟨g,0,none⟩) cap k0 sz) (l.length-k0) (cap-k0)]).run P w=.ok (.tuple #[]) (w.setRow g (cur.toList.take (k0*sz)++(List.replicate (l.length-k0) z).flatMap f++cur.toList.drop (k0*sz+((List.replicate (l.length-k0) z).flatMap f).length)).toArray):=by
    rw [hso];obtain ⟨m,hm⟩:∃m,l.length-k0=m+1:=⟨l.length-k0-1,by omega⟩;have hzr:=B3 _ _ hz;have hzz:=T2 hf h0 z (l.length-k0);rw [←hzc] at hzz;rw [hm] at hst hzz ⊢;simp [Builtin.clear_,run_underlying ht,hzr,hzz,hst]
   refine A3l hF hdst hs hr hM fun a' hF'=>next _ a' hF' ?_
   have hlen:(l.take k0++List.replicate (l.length-k0) z).length=l.length:=by simp;omega
   have hfm:(l.take k0++List.replicate (l.length-k0) z).flatMap f=(l.flatMap f).take (k0*sz)++(List.replicate (l.length-k0) z).flatMap f:=by
    rw [List.flatMap_append]
    congr 1
    have e2:l.flatMap f=(l.take k0).flatMap f++(l.drop k0).flatMap f:=by rw [←List.flatMap_append,List.take_append_drop]
    have e3:((l.take k0).flatMap f).length=k0*sz:=by rw [D3 hf,List.length_take,Nat.min_eq_left hk]
    rw [e2,←e3,List.take_left]
   have hcl:cur.toList.length=cur.size:=by simp
   refine hS.upd hi rfl rfl rfl (by simp [World.setRow]) (fun q _ hq=>setRow_other w g q _ (fun e=>hq (by simp [Go.Eng.arr,Value.ownBlock,e]))) ⟨hlen,?_,.inr ⟨g,cap,_,rfl,hbase,setRow_heap w g cur _ e _ hg,hnc,hcm,?_,?_⟩⟩ (fun q hq=>.inl hq)
   ·rw [D3 hf,hlen]
   ·simp only [List.size_toArray,List.length_append,List.length_take,List.length_drop];omega
   ·have hsp:=Mf (cur:=cur.toList) (us:=(List.replicate (l.length-k0) z).flatMap f) (p:=k0*sz) (T:=l.length*sz) (by rw [hzl];omega) (by omega);rw [htake] at hsp;rw [hfm];refine hsp.trans ?_;rw [List.drop_of_length_le (by rw [D3 hf,hzl];omega),List.append_nil]
end
end Go.Eng
namespace Go.Eng
open Go Go.RowKit
set_option linter.unusedVariables false
def effSemP (ρ:Operand→Value) (op:Op) (ty:TypeId):Option (Sem Value) :=
 match op with
 | .call { callee:=.builtin .copy,args,argTypes }=>some (Builtin.copy_ argTypes ty (args.map ρ))
 | _=>none
theorem Vl {P:Program} {ρ:Operand→Value} {o:Oper} {s:Sem Value} {v:Value} {w w':World} (h:effSemP ρ o.op o.type=some s) (hr:s.run P w=.ok v w'):(execOp ρ o).run P w=.ok (.value v) w':=by
 unfold effSemP at h;unfold execOp
 split at h<;>rename_i hop<;>simp only [Option.some.injEq,reduceCtorEq] at h<;>(try subst h)<;>rw [hop]<;>simp [hr,resolve,invoke,builtin]
structure EffP (ops:Array Oper) (k:Nat) (M:List (Nat×Value)) (s:Sem Value):Prop where
 eq:((plainAt ops k M).bind fun o=>effSemP (rhoE (ofM M)) o.op o.type)=some s
structure OvAt (ops:Array Oper) (k:Nat) (M:List (Nat×Value)) (fid:FuncId) (x y:Value):Prop where
 eq:((plainAt ops k M).bind fun o=>match o.op with|.call { callee:=.value g,args,.. }=>some (rhoE (ofM M) g,args.map (rhoE (ofM M)))|_=>none)=some (.func (.func fid) #[] #[],#[x,y])
theorem Z4 {P:Program} (w:World) (tS tR e:TypeId) (ht:P.underlying tS=some (.slice e)) (size:Nat) (hz:∀w,(Go.sizeOf e).run P w=.ok size w)
  (a b:Addr) (la ca lb cb:Nat) (hne:a.block≠b.block) (tA tB:TypeId) (kA:Nat) (cur:Array Value) (hsa:w.shape? a.block=some (tA,kA+1)) (hb:w.heap[b.block]? = some (.cells cur tB (0,0))) (hc:cur.size≠0) :
  (Extern.SlicesOverlaps.overlaps #[tS,tS] #[tR] #[.slice (some a) la ca,.slice (some b) lb cb]).run P w=.ok (.bool false) w:=by
 have hnb:(a.block != b.block)=true:=by simpa using hne
 have hnb':(a.block==b.block)=false:=by simpa using hne
 have hsb:w.shape? b.block=some (tB,cur.size):=by unfold World.shape?;rw [hb]
 have hfb:w.frozen? b=false:=by unfold World.frozen?;rw [hb];simp
 have hfc:∀n,w.frozen? { block:=b.block,off:=n }=false:=fun n=>by unfold World.frozen?;simp only;rw [hb];simp
 change Sem.run P (α:=Value) (do
  let some t:=(#[tS,tS]:Array TypeId)[0]?|stuck "slices.overlaps: no parameter types"
  let .slice elem ←underlying t|stuck "slices.overlaps: slice type expected"
  let size ←sizeOf elem
  match (some a:Option Addr),(some b:Option Addr) with
  | some a,some b =>
   if la=0∨lb=0∨size=0 then pure (Value.bool false)
   else if a.block != b.block&&(←frozen a)&&(←frozen b) then unsupported .addressObserved
   else do
    if a.block != b.block then do
     noView a;noView b
     if ←mayBeOne a b then return Value.bool ((←choose (.extern "sameAddr.stringBytes" 2))==1)
    pure (Value.bool (a.block==b.block&&a.off<b.off+lb*size&&b.off<a.off+la*size))
  | _,_=>pure (Value.bool false)) w=_
 by_cases h0:la=0∨lb=0∨size=0
 ·simp [run_underlying ht,hz,h0]
 ·obtain ⟨n,hn⟩:∃n,cur.size=n+1:=⟨cur.size-1,by omega⟩;rw [hn] at hsb
  cases hfa:w.frozen? a<;>cases hfk:w.frozen? { block:=a.block,off:=kA+1 } <;>
   simp [run_underlying ht,hz,h0,hnb,hnb',frozen,noView,viewAt,mayBeOne,stringish,shape,Sem.run,hsa,hsb,hfa,hfk,hfb,hfc]
section
variable {P:Program} {r:Option Nat} {ops:Array Oper} {K:Act→World→Prop} {N:Nat} {ds:List Deferred} {M M':List (Nat×Value)} {a:Act} {w0 w w':World} {k:Nat} {H:List Res} {α:Type} {e sz cap bytes:Nat} {f:α→List Value} {ad:Option Addr} {l:List α} {μ:Frz}
theorem St.frz_none {i j:Nat} {R:Res} (hS:St w0 H w) (hi:H[i]? = some (F8 w0.heap.size μ)) (hj:H[j]? = some R) (hij:i≠j) {g:Nat} (hg:R.foot g):μ g=none:=by
 cases h:μ g with
 | none=>rfl
 | some o =>
  have hlow:=hS.low R (List.mem_of_getElem? hj) g hg;have hfoot:(F8 w0.heap.size μ).foot g:=⟨hlow,o,h⟩;obtain ⟨hil,ei⟩:=List.getElem?_eq_some_iff.1 hi;obtain ⟨hjl,ej⟩:=List.getElem?_eq_some_iff.1 hj;rcases Nat.lt_or_gt_of_ne hij with hlt|hgt
  ·have:=List.pairwise_iff_getElem.1 hS.apart i j hil hjl hlt;rw [ei,ej] at this;exact absurd hg (this g hfoot)
  ·have:=List.pairwise_iff_getElem.1 hS.apart j i hjl hil hgt;rw [ei,ej] at this;exact absurd hfoot (this g hg)
theorem Wu {n:Nat} {p:Addr} (h:∀w,FrzAt μ w→Arr w sz f (some p) n cap l) (hf:∀x,(f x).length=sz) (hw:FrzAt μ w) (h0:0<n) (hs:0<sz) {g:Nat} (hg:μ g=none):p.block≠g:=by
 rintro rfl;have hw':FrzAt μ { w with heap:=w.heap.setIfInBounds p.block (.cells #[] 0) }:=by
  intro b o hb;have:b≠p.block:=fun e=>by rw [e,hg] at hb;cases hb
  simp only [Array.getElem?_setIfInBounds];rw [if_neg (fun e=>this e.symm)];exact hw b o hb
 obtain ⟨hl,_⟩:=h w hw;have hne:l≠[]:=fun e=>by rw [e] at hl;simp at hl;omega
 obtain ⟨x,l',rfl⟩:=List.exists_cons_of_ne_nil hne;obtain ⟨q,hq,hc⟩:=(h _ hw').cells hf (i:=0) (by omega) (by omega) x
 cases hq
 have hx:(f x)[0]? = some ((f x)[0]'(by rw [hf];exact hs)):=List.getElem?_eq_getElem _;have h1:=hc 0 _ hx;unfold At World.cell? at h1;have hb:((((some p:Option Addr).getD default).add (Int.toNat 0*sz)).add 0).block=p.block:=by
  simp [Addr.add]
 rw [hb] at h1;simp only [Array.getElem?_setIfInBounds] at h1
 by_cases hin:p.block<w.heap.size
 ·simp [hin] at h1
 ·simp [hin] at h1
theorem A5n {s:Sem Value} {v:Value} (hF:Fr N ds M a) (hdst:An ops N=true) (hs:EffP ops k M s) (hr:s.run P w=.ok v w')
  (hM:NextM ops k M v M') (next:∀a',Fr N ds M' a'→K a' w'):SK P r ops k K a w:=by
 have hs:=hs.eq
 cases ho:plainAt ops k M with
 | none=>rw [ho] at hs;simp at hs
 | some o =>
  rw [ho] at hs;exact Wb hF hdst ho (Vl hs hr) hM next
theorem ovK {fid tS tR:Nat} {fn:Func} {p b:Addr} {la ca lb cb size kA:Nat} {tA tB:TypeId} {cur:Array Value} (hF:Fr N ds M a) (hdst:An ops N=true) (hs:OvAt ops k M fid (.slice (some p) la ca) (.slice (some b) lb cb))
  (hf:P.funcs[fid]? = some fn) (hname:(fn.name == "runtime.NumGoroutine")=false) (hbd:fn.body.isNone=true) (hn:Extern.findNext fn=none) (he:Extern.find fn=some (Extern.SlicesOverlaps.overlaps #[tS,tS] #[tR]))
  (ht:P.underlying tS=some (.slice e)) (hz:∀w,(Go.sizeOf e).run P w=.ok size w) (hne:p.block≠b.block) (hsa:w.shape? p.block=some (tA,kA+1)) (hb:w.heap[b.block]? = some (.cells cur tB (0,0))) (hc:cur.size≠0)
  (hM:NextM ops k M (.bool false) M') (next:∀a',Fr N ds M' a'→K a' w):SK P r ops k K a w:=by
 have hs:=hs.eq
 cases ho:plainAt ops k M with
 | none=>rw [ho] at hs;simp at hs
 | some o =>
  rw [ho] at hs;simp only [Option.bind_some] at hs
  split at hs
  ·rename_i g args hop heq
   simp only [Option.some.injEq,Prod.mk.injEq] at hs;obtain ⟨h1,h2⟩:=hs;refine Wb hF hdst ho ?_ hM next
   have hov:=Z4 (P:=P) w tS tR e ht size hz p b la ca lb cb hne tA tB kA cur hsa hb hc;have hcall:=run_callFunc_extern hf hname hbd hn he #[.slice (some p) la ca,.slice (some b) lb cb] w;rw [hov] at hcall;unfold execOp;rw [heq];simp [resolve,Deferred.ofValue,invoke,h1,h2,hcall]
  ·cases hs
theorem P3 {n:Nat} {c:List (List Value)} (h:(Go.Eng.arr e 1 (fN 1) ad n cap c).holds w) (hn:0<n):∃g cur,ad=some ⟨g,0,none⟩∧w.heap[g]? = some (.cells cur e (0,0))∧n≤cap∧cap≤maxLen∧cur.size=cap*1∧cur.toList.take (n*1)=c.flatMap (fN 1)∧c.length=n:=by
 obtain ⟨hl,hx,h3⟩:=h;rcases h3 with ⟨h',hz⟩|⟨g,cap',cur,h',_,hg,hnc,hcm,hcs,htake⟩
 ·omega
 ·simp only [Value.slice.injEq,true_and] at h';obtain ⟨rfl,rfl⟩:=h';exact ⟨g,cur,rfl,hg,hnc,hcm,hcs,htake,hl⟩
theorem Z5 {t t2 ty g k0 dl dcap sl scap:Nat} {q:Addr} {X:List Value} {cur:Array Value} (hg:w.heap[g]? = some (.cells cur e (0,0))) (hty:Gz P t e 1 bytes=true) (hk:k0+X.length≤cur.size) (hn:X.length=Nat.min sl dl)
  (hsrc:∀j v,X[j]? = some v→w.cell? (q.add j)=some v) (h1:∀v∈X,v.oneCell'=true) :
  (Builtin.copy_ #[t,t2] ty #[.slice (some ⟨g,k0,none⟩) dl dcap,.slice (some q) sl scap]).run P w=.ok (.int .i64 (X.length:Int)) (w.setRow g (cur.toList.take k0++X++cur.toList.drop (k0+X.length)).toArray):=by
 obtain ⟨inf,z,ht,hinf,hz,hsz,hb,hzs,hszp⟩:=Fs hty;have hl:=run_loadCells_list (P:=P) w q X hsrc;have hst:=run_storeCells_at P g k0 e X 0 cur w hg (by omega) h1;simp only [Nat.add_zero] at hst;simp [Builtin.copy_,Builtin.lenOf,Builtin.firstCells,sizeOf,typeInfo,hinf,hsz,hl,hst,goInt,run_underlying ht,←hn]
theorem Y2 (M':List (Nat×Value)) (i:Nat) {t t2 ty g k0 dl dcap sl scap n:Nat} {q:Addr} {c l':List (List Value)} (hF:Fr N ds M a) (hS:St w0 H w) (hi:H[i]? = some (Go.Eng.arr e 1 (fN 1) (some ⟨g,0,none⟩) n cap c)) (hdst:An ops N=true)
  (hs:EffP ops k M (Builtin.copy_ #[t,t2] ty #[.slice (some ⟨g,k0,none⟩) dl dcap,.slice (some q) sl scap])) (hty:Gz P t e 1 bytes=true) (h0:0<l'.length) (hk:k0+l'.length≤n) (hn:l'.length=Nat.min sl dl)
  (hsrc:∀j v,(l'.flatMap (fN 1))[j]? = some v→w.cell? (q.add j)=some v) (h1:∀v∈l'.flatMap (fN 1),v.oneCell'=true) (hM:NextM ops k M (.int .i64 (l'.length:Int)) M')
  (next:∀w' a',Fr N ds M' a'→(∀b,b≠g→w'.heap[b]? = w.heap[b]?)→St w0 (H.set i (Go.Eng.arr e 1 (fN 1) (some ⟨g,0,none⟩) n cap (c.take k0++l'++c.drop (k0+l'.length)))) w'→K a' w'):SK P r ops k K a w:=by
 have hold:=hS.holds _ (List.mem_of_getElem? hi);obtain ⟨g',cur,hgg,hg,hnc,hcm,hcs,htake,hcl⟩:=P3 hold (by omega)
 cases hgg
 obtain ⟨inf,z,ht,hinf,hz,hsz,hb,hzs,hszp⟩:=Fs hty;have hll:(l'.flatMap (fN 1)).length=l'.length:=by rw [D3 (C4 1),Nat.mul_one]
 have hr:=Z5 (P:=P) (t2:=t2) (ty:=ty) (dl:=dl) (dcap:=dcap) (sl:=sl) (scap:=scap) (k0:=k0) hg hty (by rw [hll];omega) (by rw [hll];exact hn) hsrc h1;rw [hll] at hr;refine A5n hF hdst hs hr hM fun a' hF'=>next _ a' hF' (fun b hb=>setRow_other w g b _ hb) ?_
 have hlen:(c.take k0++l'++c.drop (k0+l'.length)).length=n:=by simp;omega
 have hf1:∀c':List (List Value),(c'.flatMap (fN 1)).length=c'.length:=fun c'=>by rw [D3 (C4 1),Nat.mul_one]
 have htk:∀j,(c.take j).flatMap (fN 1)=(c.flatMap (fN 1)).take j:=fun j=>by
  have e2:c.flatMap (fN 1)=(c.take j).flatMap (fN 1)++(c.drop j).flatMap (fN 1):=by rw [←List.flatMap_append,List.take_append_drop]
  by_cases hj:j≤c.length
  ·rw [e2,List.take_left' (by rw [hf1,List.length_take];omega)]
  ·rw [List.take_of_length_le (by omega),List.take_of_length_le (by rw [hf1];omega)]
 have hdp:∀j,(c.drop j).flatMap (fN 1)=(c.flatMap (fN 1)).drop j:=fun j=>by
  have e2:c.flatMap (fN 1)=(c.take j).flatMap (fN 1)++(c.drop j).flatMap (fN 1):=by rw [←List.flatMap_append,List.take_append_drop]
  by_cases hj:j≤c.length
  ·rw [e2,List.drop_left' (by rw [hf1,List.length_take];omega)]
  ·rw [List.drop_eq_nil_of_le (show c.length≤j by omega),List.drop_eq_nil_of_le (by rw [hf1];omega)];rfl
 refine hS.upd hi rfl rfl rfl (by simp [World.setRow]) (fun q' _ hq=>setRow_other w g q' _ (fun e=>hq (by simp [Go.Eng.arr,Value.ownBlock,e]))) ⟨hlen,?_,.inr ⟨g,cap,_,rfl,Nat.zero_le _,setRow_heap w g cur _ e _ hg,hnc,hcm,?_,?_⟩⟩ (fun q' hq=>.inl hq)
 ·rw [hf1,hlen,Nat.mul_one]
 ·simp only [List.size_toArray,List.length_append,List.length_take,List.length_drop,Array.length_toList];omega
 ·have hsp:=Mf (cur:=cur.toList) (us:=l'.flatMap (fN 1)) (p:=k0) (T:=n*1) (by rw [hll];omega) (by simp;omega);rw [htake] at hsp;rw [List.flatMap_append,List.flatMap_append,htk,hdp];rw [hll] at hsp;exact hsp
theorem St.more {i g n:Nat} {c:List (List Value)} (hS:St w0 H w) (hi:H[i]? = some (Go.Eng.arr e 1 (fN 1) (some ⟨g,0,none⟩) n cap c)) (hn:0<n) (hlt:n<cap):∃z,St w0 (H.set i (Go.Eng.arr e 1 (fN 1) (some ⟨g,0,none⟩) (n+1) cap (c++[z]))) w:=by
 have hold:=hS.holds _ (List.mem_of_getElem? hi);obtain ⟨g',cur,hgg,hg,hnc,hcm,hcs,htake,hcl⟩:=P3 hold hn
 cases hgg
 have hf1:∀c':List (List Value),(c'.flatMap (fN 1)).length=c'.length:=fun c'=>by rw [D3 (C4 1),Nat.mul_one]
 have hq:n<cur.toList.length:=by simp;omega
 refine ⟨[cur.toList[n]],hS.upd hi rfl rfl rfl (Nat.le_refl _) (fun _ _ _=>rfl) ⟨by simp [hcl],?_,.inr ⟨g,cap,cur,rfl,Nat.zero_le _,hg,hlt,hcm,hcs,?_⟩⟩ (fun q hq=>.inl hq)⟩
 ·rw [hf1];simp [hcl]
 ·rw [Nat.mul_one] at htake ⊢;rw [List.take_succ_eq_append_getElem hq,htake,List.flatMap_append];simp [fN]
theorem A5i (M':Nat→Nat→List (Nat×Value)) (i:Nat) {t tn ty g n j m:Nat} {kq':IntKind} {c:List (List Value)} (z:List Value) {zv:Value} (hF:Fr N ds M a) (hS:St w0 H w) (hi:H[i]? = some (Go.Eng.arr e 1 (fN 1) (some ⟨g,0,none⟩) n cap c)) (hdst:An ops N=true)
  (hs:EffAt ops k M (Builtin.append_ #[t,tn] ty #[.slice (some ⟨g,0,none⟩) j cap,.int kq' (m:Int)])) (hty:Gz P t e 1 bytes=true) (htn:P.underlying tn=some (.int .i64)) (hzz:∀inf,P.info? e=some inf→inf.zero=some zv) (hzv:zv.cells=#[zv]) (hj:j≤n) (hm:0<m) (hn:0<n) (hno:cap<j+m)
  (hb:(j+m)*bytes≤140737488355328) (h63:j+m≤9223372036854775807) (hM:∀b cap',NextM ops k M (.slice (some ⟨b,0,none⟩) (j+m) cap') (M' b cap'))
  (next:∀b cap' w' a',Fr N ds (M' b cap') a'→w.heap.size≤b→(∀x,x<w.heap.size→w'.heap[x]? = w.heap[x]?)→j+m≤cap'→cap'≤9223372036854775807→St w0 (Go.Eng.arr e 1 (fN 1) (some ⟨b,0,none⟩) (j+m) cap' (c.take j++List.replicate m [zv])::H) w'→K a' w'):SK P r ops k K a w:=by
 have hold:=hS.holds _ (List.mem_of_getElem? hi);obtain ⟨g',cur,hgg,hg,hnc,hcm,hcs,htake,hcl⟩:=P3 hold hn
 cases hgg
 obtain ⟨inf,z',ht,hinf,hz,hsz,hbb,hzs,hszp⟩:=Fs hty;have hz2:=hzz inf hinf;rw [hz] at hz2
 cases hz2
 have hf1:∀c':List (List Value),(c'.flatMap (fN 1)).length=c'.length:=fun c'=>by rw [D3 (C4 1),Nat.mul_one]
 have hcell:=World.ownsRow.cells hold.2 (g:=g) rfl;have holds:∀q v,(c.flatMap (fN 1))[q]? = some v→w.drew.cell? ((⟨g,0,none⟩:Addr).add q)=some v:=fun q v hq=>hcell q v hq;have hft:(c.take j).flatMap (fN 1)=(c.flatMap (fN 1)).take j:=by
  have e2:c.flatMap (fN 1)=(c.take j).flatMap (fN 1)++(c.drop j).flatMap (fN 1):=by rw [←List.flatMap_append,List.take_append_drop]
  rw [e2,List.take_left' (by rw [hf1,List.length_take];omega)]
 have hold2:(Builtin.firstCells inf.size j (.slice (some ⟨g,0,none⟩) j cap)).run P w.drew=.ok ((c.take j).flatMap (fN 1)).toArray w.drew:=by
  rw [hsz];refine run_firstCells_some w.drew 1 j ⟨g,0,none⟩ j cap ((c.take j).flatMap (fN 1)) (by rw [hf1,List.length_take];omega) (fun q v hq=>?_);rw [hft,List.getElem?_take] at hq
  split at hq
  ·exact holds q v hq
  ·cases hq
 have hrun:=Lib.run_append_grow_zeros (P:=P) w t tn ty e inf zv kq' .i64 ht htn hinf hz (some ⟨g,0,none⟩) j cap ((c.take j).flatMap (fN 1)) hold2 m hm (by omega) hno (by omega) (by rw [hbb];have:m*bytes≤(j+m)*bytes:=Nat.mul_le_mul_right _ (by omega);omega) (by rw [hbb];exact growslice_fits hno hb);have hge:=grownCap_ge w (j+m) cap e;have hcm2:grownCap w (j+m) cap e≤maxLen:=grownCap_le_maxLen w (j+m) cap e (by unfold maxLen;omega);have hx:Ext w (w.drew.alloc (.cells (((c.take j).flatMap (fN 1)).toArray++Builtin.zeroCells zv.cells m++Builtin.zeroCells zv.cells (grownCap w (j+m) cap e-(j+m))) e)) :=
  ⟨rfl,rfl,rfl,by simp,fun k hk=>by show (w.heap.push _)[k]? = _;rw [Array.getElem?_push,if_neg (Nat.ne_of_lt hk)]⟩
 have hzc:∀q,(Builtin.zeroCells zv.cells q).toList=(List.replicate q [zv]).flatMap (fN 1):=fun q=>by
  have:=T2 (f:=fN 1) (sz:=1) (C4 1) (by decide) [zv] q;rw [hzv];exact this
 have hzl:∀q,(Builtin.zeroCells zv.cells q).size=q:=fun q=>by rw [←Array.length_toList,hzc,hf1];simp
 refine T6 hF hdst hs (hrun) (hM _ _) fun a' hF'=>next _ _ _ a' hF' (Nat.le_refl _) (fun x hx=>by show (w.heap.push _)[x]? = _;rw [Array.getElem?_push,if_neg (Nat.ne_of_lt hx)]) hge (by unfold maxLen at hcm2;omega) ?_
 refine hS.push hx ⟨by simp;omega,?_,.inr ⟨w.heap.size,_,_,rfl,Nat.zero_le _,heap_alloc_new w.drew _,hge,hcm2,?_,?_⟩⟩ ?_
 ·rw [hf1];simp;omega
 ·simp only [Array.size_append,List.size_toArray,hzl,hf1,List.length_take];omega
 ·simp only [Array.toList_append,List.append_assoc,hzc];rw [←List.append_assoc,←List.flatMap_append,List.take_left'];rw [hf1];simp;omega
 ·intro b hb;simp [Go.Eng.arr,Value.ownBlock] at hb;omega
end
end Go.Eng
namespace Go.Eng
open Go Go.RowKit
set_option linter.unusedVariables false
def WTD (P:Program) (r:Option Nat) (ops:Array Oper) (m:Nat) (eff:List Nat) (K:Act→World→Prop):Nat→(World→Prop)→List Nat→Act→World→Prop
 | 0,D,done,a,w=>WRun P r ops D [] K (Am ops m eff done) a w
 | n+1,D,done,a,w=>WRun P r ops D [] (fun a w=>∀e∈K4 ops eff done,SK P r ops e (fun a' w'=>∃D':World→Prop,(∀x,D' x→D x)∧D' w'∧WTD P r ops m eff K n D' (done++[e]) a' w') a w) (Am ops m eff done) a w
section
variable {P:Program} {r:Option Nat} {ops:Array Oper} {Q:Exit→Act→World→Prop} {K:Act→World→Prop} {D:World→Prop} {N:Nat} {eff:List Nat}
theorem ReadV.sub {D':World→Prop} {a:Act} {vals:Nat→Value} {i:Nat} (h:ReadV P r ops D a vals i) (hd:∀x,D' x→D x):ReadV P r ops D' a vals i:=by
 obtain ⟨o,ho,h⟩:=h;exact ⟨o,ho,fun a' w' hs hw=>h a' w' hs (hd _ hw)⟩
theorem Uv {id:Nat} {D0:World→Prop} (m:Nat) (eff:List Nat) {a:Act} {w:World} (hmo:P.follows .mixedOrders=true) (hck:(An ops N&&Jm ops m&&Fa ops m&&Dn ops&&Nat.ble m ops.size&&Fv ops m eff eff.length [] []&&eff.all (fun e=>Nat.blt e m&&(match ops[e]? with|some o=>plainOp o.op|none=>false))&&Kn eff)=true) (hN:a.tmps.size=N)
  (hD:D0 { w with drawn:=w.drawn+1 }) (h:WTD P r ops m eff (fun a w=>WI P r ops Q m a w) eff.length D0 [] a { w with drawn:=w.drawn+1 }):WP P r (.region id ops true) Q a w:=by
 simp only [Bool.and_eq_true] at hck;obtain ⟨⟨⟨⟨⟨⟨⟨h1,h2⟩,h3⟩,h4⟩,h5⟩,h6⟩,h7⟩,h8⟩:=hck;have hmn:=Nat.le_of_ble_eq_true h5;have heff:∀e∈eff,e<m∧∀o,ops[e]? = some o→plainOp o.op=true:=fun e he=>by
  have:=List.all_eq_true.1 h7 e he;rw [Bool.and_eq_true] at this;exact ⟨Nat.blt_eq.mp this.1,fun o ho=>by have:=this.2;rw [ho] at this;exact this⟩
 have hnde:=Fl h8;have newR:∀done i,i∈Am ops m eff done→i<m∧i∉eff:=by
  intro done i hi;unfold Am at hi;have:=List.mem_filter.1 hi;simp only [Bool.and_eq_true] at this;exact ⟨List.mem_range.1 this.1,by simpa using this.2.1.1⟩
 let St:(World→Prop)→Nat→List Nat→List Nat→(Nat→Value)→Act→World→Prop:=fun D n done pre vals b w =>
  FIs ops N a vals pre b∧(∀i∈pre,i∉eff→ReadV P r ops D a vals i)∧Told ops pre∧pre.Nodup∧(∀i∈pre,i<m)∧(∀e∈eff,e∈pre↔e∈done)∧(∀e∈done,e∈eff)∧done.Nodup∧done.length+n=eff.length ∧
  (∀i,i<m→i∉eff→(∀e∈eff,K7 ops e i=true→e∈done)→i∈pre) ∧
  (match n with
   | 0=>WI P r ops Q m b w∧∀t,lastW ops pre t=Ee ops m t
   | n+1=>(∀e∈K4 ops eff done,SK P r ops e (fun a' w'=>∃D':World→Prop,(∀x,D' x→D x)∧D' w'∧WTD P r ops m eff (fun a w=>WI P r ops Q m a w) n D' (done++[e]) a' w') b w)∧∀e∈K4 ops eff done,Lg ops pre e=true∧e∉pre∧Fv ops m eff n (done++[e]) (pre++[e])=true)
 have enter:∀(D:World→Prop) n done pre vals b w,FIs ops N a vals pre b→(∀i∈pre,i∉eff→ReadV P r ops D a vals i)→Told ops pre→(∀i∈pre,i<m)→(∀e∈eff,e∈pre↔e∈done)→(∀e∈done,e∈eff)→done.Nodup→done.length+n=eff.length →
   (∀i,i<m→i∉eff→(∀e∈eff,K7 ops e i=true→e∈done)→i∈pre++Am ops m eff done)→Fv ops m eff n done pre=true→WTD P r ops m eff (fun a w=>WI P r ops Q m a w) n D done b w →
   ∃vals' b',(∀i∈pre,vals' i=vals i)∧St D n done (pre++Am ops m eff done) vals' b' w:=by
  intro D n done pre vals b w hb hr ht hlt hed hde hdn hdl hall hok hw;have hne:∀i∈Am ops m eff done,i∉eff:=fun i hi=>(newR done i hi).2;have hl0:∀i∈Am ops m eff done,i<ops.size:=fun i hi=>by have:=(newR done i hi).1;omega
  have hlt':∀i∈pre++Am ops m eff done,i<m:=fun i hi=>by
   rcases List.mem_append.1 hi with hi|hi
   ·exact hlt i hi
   ·exact (newR done i hi).1
  have hed':∀e∈eff,e∈pre++Am ops m eff done↔e∈done:=fun e he=>by
   rw [List.mem_append,hed e he];exact ⟨fun h=>h.elim (fun h=>h) (fun h=>absurd he (hne e h)),.inl⟩
  cases n with
  | zero =>
   simp only [Fv,Bool.and_eq_true] at hok;obtain ⟨⟨⟨o1,o2⟩,o3⟩,o4⟩:=hok;have hnd:=Fl o2;rw [WTD] at hw;obtain ⟨vals',b',k1,k2,k3,k4,k5⟩:=P8 (l0:=Am ops m eff done) (eff:=eff) h1 hl0 _ pre vals b (fun _ h=>h) o1 hnd ht hb hr hne hw;refine ⟨vals',b',k1,k2,k3,k4,hnd,hlt',hed',hde,hdn,hdl,hall,k5,fun t=>?_⟩
   cases hs:Ee ops m t with
   | some j =>
    obtain ⟨hjm,hdj,_⟩:=E9 hs;have:=List.all_eq_true.1 o4 j (List.mem_range.2 hjm);rw [hdj] at this;rw [←hs]
    simpa using this
   | none =>
    cases hl:lastW ops (pre++Am ops m eff done) t with
    | none=>rfl
    | some j =>
     obtain ⟨hjl,hdj⟩:=Lj hl;exact absurd hdj (Jg hs j (hlt' j hjl))
  | succ n =>
   simp only [Fv,Bool.and_eq_true] at hok;obtain ⟨⟨o1,o2⟩,o3⟩:=hok;have hnd:=Fl o2;rw [WTD] at hw;obtain ⟨vals',b',k1,k2,k3,k4,k5⟩:=P8 (l0:=Am ops m eff done) (eff:=eff) h1 hl0 _ pre vals b (fun _ h=>h) o1 hnd ht hb hr hne hw;refine ⟨vals',b',k1,k2,k3,k4,hnd,hlt',hed',hde,hdn,hdl,hall,k5,fun e he=>?_⟩;have:=List.all_eq_true.1 o3 e he;simp only [Bool.and_eq_true] at this;exact ⟨this.1.1,by simpa using this.1.2,this.2⟩
 let G:(Nat→Bool)→(Nat→Value)→World→Prop:=fun S σ w=>∃(D:World→Prop) (n:Nat) (done pre:List Nat) (vals:Nat→Value) (b:Act),St D n done pre vals b w∧D w∧(∀i,S i=true→i∈pre)∧(∀e∈done,S e=true)∧(∀i,S i=true→σ i=vals i)
 refine Qw (B:=fun _ _=>False) (N:=N) (m:=m) (G:=G) hmo h1 h2 h3 h4 hmn (fun _ _ _ _ h=>h.elim) ?_ hN ?_ (fun _=>undef) ?_ ?_
 ·intro S σ a1 w1 i o him ho hSi hanc hcl hlow hsz hdf hG hlook;obtain ⟨D,n,done,pre,vals,b,⟨s1,s2,s3,s4,s5,s6,s7,s8,s9,s10,s11⟩,g1,g2,g3,g4⟩:=hG;have hsrc:∀t∈o.looksAt ops,∀j,Ee ops i t=some j→S j=true:=by
   intro t ht j hj;obtain ⟨hji,hdj,_⟩:=E9 hj;obtain ⟨xo,hxo,hxd⟩:=Gp hdj;rcases Ko h2 hji him hxo ho with hap|hA
   ·exact absurd ht ((Oper.apart_spec hap).1 t hxd)
   ·exact hanc j hA
  have hslot:∀t∈o.looksAt ops,a1.tmps.getD t undef=Ed ops a vals i t:=by
   intro t ht;rw [hlook t ht];unfold Ed
   cases hl:Ee ops i t with
   | none=>rfl
   | some j=>exact g4 j (hsrc t ht j hl)
  by_cases hie:i∈eff
  ·
   have hdone:∀e∈eff,K7 ops e i=true→e∈done:=fun e he hA=>(s6 e he).1 (g2 e (hanc e (Lh hA)));have hid:i∉done:=fun hd=>by have:=g3 i hd;rw [hSi] at this;cases this
   have hnx:i∈K4 ops eff done:=by
    unfold K4;refine List.mem_filter.2 ⟨hie,?_⟩;rw [Bool.and_eq_true];refine ⟨by simpa using hid,List.all_eq_true.2 fun d hd=>?_⟩
    cases hA:K7 ops d i with
    | false=>simp
    | true=>simpa using hdone d hd hA
   cases n with
   | zero =>
    exfalso;have hp:done.length=eff.length:=by omega
    have hsub:∀x∈done,x∈eff:=s7;have:i∈done:=by
     exact Re s8 hsub (by omega) i hie
    exact hid this
   | succ n =>
    obtain ⟨hstep,hlk⟩:=s11;obtain ⟨l1,l2,l3⟩:=hlk i hnx;obtain ⟨o',ho',hop⟩:=hstep i hnx;rw [ho] at ho'
    cases ho'
    have hop':=Pw (a':=a1) ((heff i hie).2 o ho) (by rw [hsz,s1.size]) (fun t ht=>by
     rw [hslot t ht,s1.slot t,Jz l1 ho t ht];rfl) (.inl hop:OpGB P r ops o b w1 _ (fun _ _=>False))
    refine hop'.mono ?_;rintro v w' ⟨D2,hDD,hDw,hw⟩;have hag:∀j∈pre,H4 vals i v j=vals j:=fun j hj=>by
     have:j≠i:=fun e=>l2 (e▸hj);simp [H4,this]
    have hb':=s1.put (v:=v) h1 (by omega) l2;have hdo:o.dst=dstAt ops i:=by simp [dstAt,ho]
    rw [hdo] at hw;obtain ⟨vals',b',k1,k2⟩:=enter D2 n (done++[i]) (pre++[i]) (H4 vals i v) _ w' hb' (fun j hj hje=>by
      rcases List.mem_append.1 hj with hj|hj
      ·exact (Nk s3 hag hj (s2 j hj hje)).sub hDD
      ·simp at hj;subst hj;exact absurd hie hje) (s3.snoc l1) (fun j hj=>by
      rcases List.mem_append.1 hj with hj|hj
      ·exact s5 j hj
      ·simp at hj;subst hj;exact him) (fun e he=>by rw [List.mem_append,List.mem_append,s6 e he]) (fun e he=>by
      rcases List.mem_append.1 he with he|he
      ·exact s7 e he
      ·simp at he;subst he;exact hie) (List.nodup_append.2 ⟨s8,by simp,fun x hx y hy=>by simp at hy;subst hy;exact fun e=>hid (e▸hx)⟩) (by simp;omega) (fun j hj hje hAj=>by
      by_cases hold:∀e∈eff,K7 ops e j=true→e∈done
      ·exact List.mem_append_left _ (List.mem_append_left _ (s10 j hj hje hold))
      ·refine List.mem_append_right _ ?_;unfold Am;refine List.mem_filter.2 ⟨List.mem_range.2 hj,?_⟩;have hij:K7 ops i j=true:=by
        simp only [Classical.not_forall] at hold;obtain ⟨e,he,hAe,hed⟩:=hold;rcases List.mem_append.1 (hAj e he hAe) with h'|h'
        ·exact absurd h' hed
        ·simp at h';subst h';exact hAe
       simp only [Bool.and_eq_true];refine ⟨⟨by simpa using hje,List.all_eq_true.2 fun e he=>?_⟩,by simpa using hij⟩
       cases hAe:K7 ops e j with
       | false=>simp
       | true=>simpa using hAj e he hAe) l3 hw
    refine ⟨D2,n,done++[i],_,vals',b',k2,hDw,fun j hj=>?_,fun e he=>?_,fun j hj=>?_⟩
    ·rcases Bool.or_eq_true _ _▸hj with hj|hj
     ·exact List.mem_append_left _ (List.mem_append_left _ (g2 j hj))
     ·rw [Nat.beq_eq] at hj;subst hj;exact List.mem_append_left _ (by simp)
    ·rcases List.mem_append.1 he with he|he
     ·simp [g3 e he]
     ·simp at he;subst he;simp
    ·rcases Bool.or_eq_true _ _▸hj with hj|hj
     ·have hjl:=g2 j hj;have hji:j≠i:=fun e=>l2 (e▸hjl);rw [k1 j (List.mem_append_left _ hjl),hag j hjl];simp [H4,hji,g4 j hj]
     ·rw [Nat.beq_eq] at hj;subst hj;rw [k1 j (by simp)];simp [H4]
  ·have hip:i∈pre:=s10 i him hie (fun e he hA=>(s6 e he).1 (g2 e (hanc e (Lh hA))));obtain ⟨o',ho',hr⟩:=s2 i hip hie;rw [ho] at ho'
   cases ho'
   refine .inl ((hr a1 w1 hslot g1).mono ?_);rintro v w' ⟨rfl,rfl⟩;refine ⟨D,n,done,pre,vals,b,⟨s1,s2,s3,s4,s5,s6,s7,s8,s9,s10,s11⟩,g1,fun j hj=>?_,fun e he=>by simp [g3 e he],fun j hj=>?_⟩
   ·rcases Bool.or_eq_true _ _▸hj with hj|hj
    ·exact g2 j hj
    ·rw [Nat.beq_eq] at hj;subst hj;exact hip
   ·rcases Bool.or_eq_true _ _▸hj with hj|hj
    ·by_cases hji:j=i
     ·subst hji;simp [H4]
     ·simp [H4,hji,g4 j hj]
    ·rw [Nat.beq_eq] at hj;subst hj;simp [H4]
 ·intro S S' σ w1 hSS hG;have:S=S':=funext hSS;rw [←this];exact hG
 ·obtain ⟨vals',b',k1,k2⟩:=enter D0 eff.length [] [] (fun _=>undef) a _ ⟨hN,rfl,fun t=>by simp [lastW]⟩ (fun i hi=>by simp at hi) (fun pre i post e=>by simp at e) (fun i hi=>by simp at hi) (fun e he=>by simp) (fun e he=>by simp at he) List.nodup_nil (by simp) (fun i hi hie hA=>by
    refine List.mem_append_right _ (List.mem_filter.2 ⟨List.mem_range.2 hi,?_⟩);simp only [Bool.and_eq_true];refine ⟨⟨by simpa using hie,List.all_eq_true.2 fun e he=>?_⟩,rfl⟩
    cases hAe:K7 ops e i with
    | false=>simp
    | true=>exact absurd (hA e he hAe) (by simp)) h6 h
  exact ⟨D0,_,_,_,vals',b',k2,hD,fun i hi=>by simp at hi,fun e he=>by simp at he,fun i hi=>by simp at hi⟩
 ·intro a' w' σ hNa hdf hG hslots;obtain ⟨D,n,done,pre,vals,b,⟨s1,s2,s3,s4,s5,s6,s7,s8,s9,s10,s11⟩,g1,g2,g3,g4⟩:=hG;have hn:n=0:=by
   have hsub:∀e∈eff,e∈done:=fun e he=>(s6 e he).1 (g2 e (Nat.blt_eq.mpr (heff e he).1));have:=Pk eff done hnde hsub;omega
  subst hn;obtain ⟨hWI,hfin⟩:=s11;have hab:a'=b:=by
   have ht:a'.tmps=b.tmps:=by
    refine Array.ext (by rw [hNa,s1.size]) (fun t ht1 ht2=>?_);have e1:=hslots t;have e2:=s1.slot t;have hsl:Ed ops a σ m t=(match lastW ops pre t with|some j=>vals j|none=>a.tmps.getD t undef):=by
     rw [hfin t];unfold Ed
     cases hs:Ee ops m t with
     | none=>rfl
     | some j=>exact g4 j (Nat.blt_eq.mpr (E9 hs).1)
    replace e1:a'.tmps.getD t undef=b.tmps.getD t undef:=e1.trans (hsl.trans e2.symm);rw [Array.getD_eq_getD_getElem?,Array.getD_eq_getD_getElem?,Array.getElem?_eq_getElem ht1,Array.getElem?_eq_getElem ht2] at e1
    simpa using e1
   cases a';cases b
   simp only at ht;subst ht;have:=hdf.trans s1.dfs.symm;simp only at this;rw [this]
  rw [hab];exact hWI
theorem WTD.z {m:Nat} {done:List Nat} {a:Act} {w:World} (rs:List Nat) (hr:Am ops m eff done=rs) (h:WRun P r ops D [] K rs a w):WTD P r ops m eff K 0 D done a w:=by rw [WTD,hr];exact h
theorem WTD.s {m n:Nat} {done:List Nat} {a:Act} {w:World} (rs es:List Nat) (hr:Am ops m eff done=rs) (hx:K4 ops eff done=es)
  (h:WRun P r ops D [] (fun a w=>∀e∈es,SK P r ops e (fun a' w'=>∃D':World→Prop,(∀x,D' x→D x)∧D' w'∧WTD P r ops m eff K n D' (done++[e]) a' w') a w) rs a w):WTD P r ops m eff K (n+1) D done a w:=by rw [WTD,hr,hx];exact h
theorem Uw {id:Nat} (m:Nat) (eff:List Nat) {a:Act} {w:World} (hmo:P.follows .mixedOrders=true) (hck:(An ops N&&Jm ops m&&Fa ops m&&Dn ops&&Nat.ble m ops.size&&Fv ops m eff eff.length [] []&&eff.all (fun e=>Nat.blt e m&&(match ops[e]? with|some o=>plainOp o.op|none=>false))&&Kn eff)=true) (hN:a.tmps.size=N)
  (h:∀w1,Ext w w1→D w1∧WTD P r ops m eff (fun a w=>WI P r ops Q m a w) eff.length D [] a w1):WP P r (.region id ops true) Q a w :=
 Uv m eff hmo hck hN (h _ (Ju w)).1 (h _ (Ju w)).2
end
end Go.Eng
namespace Go.Eng
open Go Go.RowKit
set_option linter.unusedVariables false
section
variable {P:Program} {r:Option Nat} {ops:Array Oper} {Q:Exit→Act→World→Prop} {N:Nat} {B:List PanicEntry→World→Prop}
theorem Ws {m:Nat} {a0:Act} {G:(Nat→Bool)→(Nat→Value)→World→Prop} (hdst:An ops N=true) (hord:Jm ops m=true) (htail:Fa ops m=true) (hedge:Dn ops=true) (hmn:m≤ops.size)
  (hB:∀ch a' w,a'.tmps.size=N→a'.defers=a0.defers→(∀t,(∀j,j<m→dstAt ops j≠some t)→a'.tmps.getD t undef=a0.tmps.getD t undef)→B ch w→Q (.panic ch) a' w) (hstep:U0 P r ops m N a0 B G)
  (hK:∀a' w' σ,a'.tmps.size=N→a'.defers=a0.defers→G (fun k=>Nat.blt k m) σ w'→(∀t,a'.tmps.getD t undef=Ed ops a0 σ m t)→WI P r ops Q m a' w') (hG:∀S S' σ w,(∀k,S k=S' k)→G S σ w→G S' σ w) :
  ∀(fuel:Nat) (S:Array Bool) (σ:Nat→Value) (a:Act) (w:World),GInv ops m a0 G N S σ a w→S.toList.count false≤fuel→wpAnyIn (F0 r) 0 P .any ops Q fuel S a w:=by
 have conf:∀{i j:Nat} {x y:Oper},i<j→j<m→ops[i]? = some x→ops[j]? = some y→((∃d,x.dst=some d∧d∈y.looksAt ops)∨(∃d,x.dst=some d∧y.dst=some d)∨(∃d,y.dst=some d∧d∈x.looksAt ops))→Anc ops i j:=by
  intro i j x y hij hj hx hy hc;rcases Ko hord hij hj hx hy with h|h
  ·have hs:=Oper.apart_spec h;rcases hc with ⟨d,h1,h2⟩|⟨d,h1,h2⟩|⟨d,h1,h2⟩
   ·exact absurd h2 (hs.1 d h1)
   ·exact absurd h2 (hs.2.1 d h1)
   ·exact absurd h2 (hs.2.2 d h1)
  ·exact h
 have full:∀(S:Array Bool) (σ:Nat→Value) (a:Act) (w:World),GInv ops m a0 G N S σ a w→(∀i,i<m→S.getD i false=true)→WI P r ops Q m a w:=by
  intro S σ a w hI hall;refine hK a w σ hI.sz hI.dfs (hG _ _ σ w (fun k=>?_) hI.g) ?_
  ·by_cases hk:k<m
   ·rw [hall k hk];exact (Nat.blt_eq.mpr hk).symm
   ·have h1:S.getD k false=false:=by
     cases hb:S.getD k false with
     | false=>rfl
     | true=>exact absurd (hI.low k hb) hk
    have h2:Nat.blt k m=false:=by
     cases hb:Nat.blt k m with
     | false=>rfl
     | true=>exact absurd (Nat.blt_eq.mp hb) hk
    rw [h1,h2]
  ·intro t;unfold Ed
   cases hs:Ee ops m t with
   | some j =>
    obtain ⟨h1,h2,h3⟩:=E9 hs;exact hI.last j t (hall j h1) h2 (fun k hk hSk=>h3 k hk (hI.low k hSk))
   | none=>exact hI.base t (fun i hi=>Jg hs i (hI.low i hi))
 intro fuel
 induction fuel with
 | zero =>
  intro S σ a w hI hcnt;have hall:∀i,i<ops.size→S.getD i false=true:=by
   intro i hi
   cases hb:S.getD i false with
   | true=>rfl
   | false =>
    have hti:S.getD i true=false:=by
     rw [Array.getD_eq_getD_getElem?] at hb ⊢;rw [Array.getElem?_eq_getElem (by rw [hI.ssz];exact hi)] at hb ⊢
     simpa using hb
    have:=R3 (Jj hti);omega
  have hmeq:m=ops.size:=by
   rcases Nat.lt_or_ge m ops.size with h|h
   ·have:=hI.low m (hall m h);omega
   ·omega
  have hW:=full S σ a w hI (fun i hi=>hall i (by omega));refine Mp hedge htail 0 m S a w (Nat.le_refl _) hI.ssz hI.closed (fun i=>?_) (by omega) (by omega) hW;exact ⟨fun h=>⟨hI.low i h,by have:=hI.low i h;omega⟩,fun h=>hall i h.2⟩
 | succ fuel ih =>
  intro S σ a w hI hcnt;refine ⟨fun h0=>?_,fun i hi=>?_⟩
  ·have hall:=N8 hedge hI.ssz h0;have hmeq:m=ops.size:=by
    rcases Nat.lt_or_ge m ops.size with h|h
    ·have:=hI.low m (hall m h);omega
    ·omega
   have hW:=full S σ a w hI (fun i hi=>hall i (by omega));rw [hmeq] at hW
   simpa [WI,wpOpsIn] using hW
  ·obtain ⟨h0,o,ho,hedges⟩:=mem_ready.1 hi;have hin:i<ops.size:=(Array.getElem?_eq_some_iff.1 ho).1;have hiS:S.getD i false=false:=J3 h0
   by_cases him:i<m
   ·have hd:dstAt ops i=o.dst:=by simp [dstAt,ho]
    have hlook:∀t∈o.looksAt ops,a.tmps.getD t undef=Ed ops a0 σ i t:=by
     intro t ht;have later:∀k,i<k→S.getD k false=true→dstAt ops k≠some t:=by
      intro k hk hSk hdk;obtain ⟨y,hy,hyd⟩:=Gp hdk;have:=(conf hk (hI.low k hSk) ho hy (.inr (.inr ⟨t,hyd,ht⟩))).listed hI.closed hSk;rw [hiS] at this;cases this
     unfold Ed
     cases hs:Ee ops i t with
     | some j =>
      obtain ⟨h1,h2,h3⟩:=E9 hs;obtain ⟨x,hx,hxd⟩:=Gp h2;have hSj:=(conf h1 him hx ho (.inl ⟨t,hxd,ht⟩)).ready hI.closed hi;refine hI.last j t hSj h2 (fun k hk hSk=>?_);rcases Nat.lt_trichotomy k i with hki|hki|hki
      ·exact h3 k hk hki
      ·subst hki;rw [hiS] at hSk;cases hSk
      ·exact later k hki hSk
     | none =>
      refine hI.base t (fun k hSk=>?_);rcases Nat.lt_trichotomy k i with hki|hki|hki
      ·exact Jg hs k hki
      ·subst hki;rw [hiS] at hSk;cases hSk
      ·exact later k hki hSk
    refine (hstep (fun k=>S.getD k false) σ a w i o him ho hiS (fun j hj=>hj.ready hI.closed hi) (fun j k hk hj=>hj.listed hI.closed hk) (fun k hk=>hI.low k hk) hI.sz hI.dfs hI.g hlook).wpOpIn ho ?_ (fun ch w' hb=>hB ch a w' hI.sz hI.dfs (fun t hn=>hI.base t (fun k hk=>hn k (hI.low k hk))) hb);intro v w' hg;refine ih _ (H4 σ i v) _ _ ?_ ?_
    ·refine ⟨by simp [hI.ssz],fun j hj=>?_,hI.closed.set hi,by rw [Lx];exact hI.sz,by rw [Jd];exact hI.dfs,hG _ _ _ _ (fun k=>?_) hg,?_,?_⟩
     ·by_cases hij:i=j
      ·subst hij;exact him
      ·rw [getD_set_ne false hij] at hj;exact hI.low j hj
     ·by_cases hik:i=k
      ·subst hik;rw [Ea (by rw [hI.ssz];exact hin)];simp
      ·rw [getD_set_ne false hik];have:Nat.beq k i=false:=by
        cases hb:Nat.beq k i with
        | false=>rfl
        | true=>rw [Nat.beq_eq] at hb;exact absurd hb.symm hik
       rw [this,Bool.or_false]
     ·intro j d hSj hdj hlast
      by_cases hij:i=j
      ·subst hij;rw [hd] at hdj;rw [hdj,N0 (by rw [hI.sz];exact Ja hdst ho hdj)];simp [H4]
      ·rw [getD_set_ne false hij] at hSj;have hne:o.dst≠some d:=by
        intro hod;rcases Nat.lt_or_ge j i with hji|hji
        ·exact hlast i hji (Ea (by rw [hI.ssz];exact hin)) (by rw [hd];exact hod)
        ·obtain ⟨y,hy,hyd⟩:=Gp hdj;have:=(conf (show i<j by omega) (hI.low j hSj) ho hy (.inr (.inl ⟨d,hod,hyd⟩))).listed hI.closed hSj;rw [hiS] at this;cases this
       rw [J0 hne,hI.last j d hSj hdj (fun k hk hSk=>hlast k hk (getD_set_true hSk))];simp [H4,Ne.symm hij]
     ·intro t hnone;have hne:o.dst≠some t:=fun e=>hnone i (Ea (by rw [hI.ssz];exact hin)) (by rw [hd];exact e);rw [J0 hne];exact hI.base t (fun k hk=>hnone k (getD_set_true hk))
    ·have h1:=R4 S.toList i (Jj h0);have h2:(S.setIfInBounds i true).toList=S.toList.set i true:=by simp
     rw [h2];omega
   ·have hall:∀j,j<i→S.getD j false=true:=fun j hj=>(Mg htail (by omega) hin hj).ready hI.closed hi;have him':i=m:=by
     rcases Nat.lt_or_ge m i with h|h
     ·have:=hI.low m (hall m h);omega
     ·omega
    have hW:=full S σ a w hI (fun j hj=>hall j (by omega));have hSiff:∀j,S.getD j false=true↔j<m∧j<ops.size:=fun j=>⟨fun h=>⟨hI.low j h,by have:=hI.low j h;omega⟩,fun h=>hall j (by omega)⟩;have hle:ops.size≤m+(fuel+1):=by
     have:∀(n k:Nat) (l:List Bool),l.length=n→(∀j,k≤j→j<n→l[j]? = some false)→n≤k+l.count false:=by
      intro n
      induction n with
      | zero=>intro k l _ _;omega
      | succ n ihn =>
       intro k l hl hf
       cases l with
       | nil=>simp at hl
       | cons b l =>
        cases k with
        | zero =>
         have h0':=hf 0 (Nat.le_refl _) (by omega);simp at h0';subst h0';have:=ihn 0 l (by simpa using hl) (fun j _ hj=>by simpa using hf (j+1) (by omega) (by omega));simp;omega
        | succ k =>
         have:=ihn k l (by simpa using hl) (fun j hj hjn=>by simpa using hf (j+1) (by omega) (by omega));have hcl:l.count false≤(b::l).count false:=by cases b<;>simp
         omega
     have:=this ops.size m S.toList (by simpa using hI.ssz) (fun j hj hjn=>by
      have hnot:¬S.getD j false=true:=fun h=>by have:=hI.low j h;omega
      rw [Array.getElem?_toList];rw [Array.getD_eq_getD_getElem?,Array.getElem?_eq_getElem (by rw [hI.ssz];exact hjn)] at hnot;rw [Array.getElem?_eq_getElem (by rw [hI.ssz];exact hjn)]
      simpa using hnot)
     omega
    exact (Mp hedge htail (fuel+1) m S a w (Nat.le_refl _) hI.ssz hI.closed hSiff hle hmn hW).2 i hi
theorem Us {id m:Nat} {a:Act} {w:World} {G:(Nat→Bool)→(Nat→Value)→World→Prop} (hmo:P.follows .mixedOrders=true) (hdst:An ops N=true) (hord:Jm ops m=true) (htail:Fa ops m=true)
  (hedge:Dn ops=true) (hmn:m≤ops.size) (hB:∀ch a' w,a'.tmps.size=N→a'.defers=a.defers→(∀t,(∀j,j<m→dstAt ops j≠some t)→a'.tmps.getD t undef=a.tmps.getD t undef)→B ch w→Q (.panic ch) a' w) (hstep:U0 P r ops m N a B G) (hN:a.tmps.size=N) (hG:∀S S' σ w,(∀k,S k=S' k)→G S σ w→G S' σ w) (σ0:Nat→Value) (h0:G (fun _=>false) σ0 { w with drawn:=w.drawn+1 })
  (hK:∀a' w' σ,a'.tmps.size=N→a'.defers=a.defers→G (fun k=>Nat.blt k m) σ w'→(∀t,a'.tmps.getD t undef=Ed ops a σ m t)→WI P r ops Q m a' w'):WP P r (.region id ops true) Q a w:=by
 refine wpIn_region_any hmo ?_;have hnone:∀i,(Array.replicate ops.size false).getD i false=false:=by
  intro i
  cases hb:(Array.replicate ops.size false).getD i false with
  | false=>rfl
  | true =>
   have:=L0 hb;simp at this;simp [this] at hb
 have hno:∀i,¬(Array.replicate ops.size false).getD i false=true:=fun i h=>by rw [hnone i] at h;cases h
 refine Ws hdst hord htail hedge hmn hB hstep hK hG ops.size _ σ0 a _ ⟨by simp,fun i h=>absurd h (hno i),fun i o e h=>absurd h (hno i),hN,rfl,hG _ _ _ _ (fun k=>(hnone k).symm) h0,fun i d h=>absurd h (hno i),fun t _=>rfl⟩ ?_;refine Nat.le_trans List.count_le_length ?_;simp
end
section
variable {P:Program} {r:Option Nat} {ops:Array Oper} {Q:Exit→Act→World→Prop} {K:Act→World→Prop} {D:World→Prop} {N:Nat} {eff:List Nat} {B:List PanicEntry→World→Prop}
theorem Uu {id:Nat} (m:Nat) (eff:List Nat) {a:Act} {w:World} (hmo:P.follows .mixedOrders=true) (hck:(An ops N&&Jm ops m&&Fa ops m&&Dn ops&&Nat.ble m ops.size&&Fv ops m eff eff.length [] []&&eff.all (fun e=>Nat.blt e m&&(match ops[e]? with|some o=>plainOp o.op|none=>false))&&Kn eff)=true) (hN:a.tmps.size=N)
  (hB:∀ch a' w,a'.tmps.size=N→a'.defers=a.defers→(∀t,(∀j,j<m→dstAt ops j≠some t)→a'.tmps.getD t undef=a.tmps.getD t undef)→B ch w→Q (.panic ch) a' w) (hD:D { w with drawn:=w.drawn+1 }) (h:WTB P r ops D m eff B (fun a w=>WI P r ops Q m a w) eff.length [] a { w with drawn:=w.drawn+1 }):WP P r (.region id ops true) Q a w:=by
 simp only [Bool.and_eq_true] at hck;obtain ⟨⟨⟨⟨⟨⟨⟨h1,h2⟩,h3⟩,h4⟩,h5⟩,h6⟩,h7⟩,h8⟩:=hck;have hmn:=Nat.le_of_ble_eq_true h5;have heff:∀e∈eff,e<m∧∀o,ops[e]? = some o→plainOp o.op=true:=fun e he=>by
  have:=List.all_eq_true.1 h7 e he;rw [Bool.and_eq_true] at this;exact ⟨Nat.blt_eq.mp this.1,fun o ho=>by have:=this.2;rw [ho] at this;exact this⟩
 have hnde:=Fl h8;have newR:∀done i,i∈Am ops m eff done→i<m∧i∉eff:=by
  intro done i hi;unfold Am at hi;have:=List.mem_filter.1 hi;simp only [Bool.and_eq_true] at this;exact ⟨List.mem_range.1 this.1,by simpa using this.2.1.1⟩
 let St:Nat→List Nat→List Nat→(Nat→Value)→Act→World→Prop:=fun n done pre vals b w =>
  FIs ops N a vals pre b∧(∀i∈pre,i∉eff→ReadV P r ops D a vals i)∧Told ops pre∧pre.Nodup∧(∀i∈pre,i<m)∧(∀e∈eff,e∈pre↔e∈done)∧(∀e∈done,e∈eff)∧done.Nodup∧done.length+n=eff.length ∧
  (∀i,i<m→i∉eff→(∀e∈eff,K7 ops e i=true→e∈done)→i∈pre) ∧
  (match n with
   | 0=>WI P r ops Q m b w∧∀t,lastW ops pre t=Ee ops m t
   | n+1=>(∀e∈K4 ops eff done,SKB P r ops e B (fun a' w'=>D w'∧WTB P r ops D m eff B (fun a w=>WI P r ops Q m a w) n (done++[e]) a' w') b w)∧∀e∈K4 ops eff done,Lg ops pre e=true∧e∉pre∧Fv ops m eff n (done++[e]) (pre++[e])=true)
 have enter:∀n done pre vals b w,FIs ops N a vals pre b→(∀i∈pre,i∉eff→ReadV P r ops D a vals i)→Told ops pre→(∀i∈pre,i<m)→(∀e∈eff,e∈pre↔e∈done)→(∀e∈done,e∈eff)→done.Nodup→done.length+n=eff.length →
   (∀i,i<m→i∉eff→(∀e∈eff,K7 ops e i=true→e∈done)→i∈pre++Am ops m eff done)→Fv ops m eff n done pre=true→WTB P r ops D m eff B (fun a w=>WI P r ops Q m a w) n done b w →
   ∃vals' b',(∀i∈pre,vals' i=vals i)∧St n done (pre++Am ops m eff done) vals' b' w:=by
  intro n done pre vals b w hb hr ht hlt hed hde hdn hdl hall hok hw;have hne:∀i∈Am ops m eff done,i∉eff:=fun i hi=>(newR done i hi).2;have hl0:∀i∈Am ops m eff done,i<ops.size:=fun i hi=>by have:=(newR done i hi).1;omega
  have hlt':∀i∈pre++Am ops m eff done,i<m:=fun i hi=>by
   rcases List.mem_append.1 hi with hi|hi
   ·exact hlt i hi
   ·exact (newR done i hi).1
  have hed':∀e∈eff,e∈pre++Am ops m eff done↔e∈done:=fun e he=>by
   rw [List.mem_append,hed e he];exact ⟨fun h=>h.elim (fun h=>h) (fun h=>absurd he (hne e h)),.inl⟩
  cases n with
  | zero =>
   simp only [Fv,Bool.and_eq_true] at hok;obtain ⟨⟨⟨o1,o2⟩,o3⟩,o4⟩:=hok;have hnd:=Fl o2;rw [WTB] at hw;obtain ⟨vals',b',k1,k2,k3,k4,k5⟩:=P8 (l0:=Am ops m eff done) (eff:=eff) h1 hl0 _ pre vals b (fun _ h=>h) o1 hnd ht hb hr hne hw;refine ⟨vals',b',k1,k2,k3,k4,hnd,hlt',hed',hde,hdn,hdl,hall,k5,fun t=>?_⟩
   cases hs:Ee ops m t with
   | some j =>
    obtain ⟨hjm,hdj,_⟩:=E9 hs;have:=List.all_eq_true.1 o4 j (List.mem_range.2 hjm);rw [hdj] at this;rw [←hs]
    simpa using this
   | none =>
    cases hl:lastW ops (pre++Am ops m eff done) t with
    | none=>rfl
    | some j =>
     obtain ⟨hjl,hdj⟩:=Lj hl;exact absurd hdj (Jg hs j (hlt' j hjl))
  | succ n =>
   simp only [Fv,Bool.and_eq_true] at hok;obtain ⟨⟨o1,o2⟩,o3⟩:=hok;have hnd:=Fl o2;rw [WTB] at hw;obtain ⟨vals',b',k1,k2,k3,k4,k5⟩:=P8 (l0:=Am ops m eff done) (eff:=eff) h1 hl0 _ pre vals b (fun _ h=>h) o1 hnd ht hb hr hne hw;refine ⟨vals',b',k1,k2,k3,k4,hnd,hlt',hed',hde,hdn,hdl,hall,k5,fun e he=>?_⟩;have:=List.all_eq_true.1 o3 e he;simp only [Bool.and_eq_true] at this;exact ⟨this.1.1,by simpa using this.1.2,this.2⟩
 let G:(Nat→Bool)→(Nat→Value)→World→Prop:=fun S σ w=>∃n done pre vals b,St n done pre vals b w∧D w∧(∀i,S i=true→i∈pre)∧(∀e∈done,S e=true)∧(∀i,S i=true→σ i=vals i)
 refine Us (B:=B) (N:=N) (m:=m) (G:=G) hmo h1 h2 h3 h4 hmn hB ?_ hN ?_ (fun _=>undef) ?_ ?_
 ·intro S σ a1 w1 i o him ho hSi hanc hcl hlow hsz hdf hG hlook;obtain ⟨n,done,pre,vals,b,⟨s1,s2,s3,s4,s5,s6,s7,s8,s9,s10,s11⟩,g1,g2,g3,g4⟩:=hG;have hsrc:∀t∈o.looksAt ops,∀j,Ee ops i t=some j→S j=true:=by
   intro t ht j hj;obtain ⟨hji,hdj,_⟩:=E9 hj;obtain ⟨xo,hxo,hxd⟩:=Gp hdj;rcases Ko h2 hji him hxo ho with hap|hA
   ·exact absurd ht ((Oper.apart_spec hap).1 t hxd)
   ·exact hanc j hA
  have hslot:∀t∈o.looksAt ops,a1.tmps.getD t undef=Ed ops a vals i t:=by
   intro t ht;rw [hlook t ht];unfold Ed
   cases hl:Ee ops i t with
   | none=>rfl
   | some j=>exact g4 j (hsrc t ht j hl)
  by_cases hie:i∈eff
  ·
   have hdone:∀e∈eff,K7 ops e i=true→e∈done:=fun e he hA=>(s6 e he).1 (g2 e (hanc e (Lh hA)));have hid:i∉done:=fun hd=>by have:=g3 i hd;rw [hSi] at this;cases this
   have hnx:i∈K4 ops eff done:=by
    unfold K4;refine List.mem_filter.2 ⟨hie,?_⟩;rw [Bool.and_eq_true];refine ⟨by simpa using hid,List.all_eq_true.2 fun d hd=>?_⟩
    cases hA:K7 ops d i with
    | false=>simp
    | true=>simpa using hdone d hd hA
   cases n with
   | zero =>
    exfalso;have hp:done.length=eff.length:=by omega
    have hsub:∀x∈done,x∈eff:=s7;have:i∈done:=by
     exact Re s8 hsub (by omega) i hie
    exact hid this
   | succ n =>
    obtain ⟨hstep,hlk⟩:=s11;obtain ⟨l1,l2,l3⟩:=hlk i hnx;obtain ⟨o',ho',hop⟩:=hstep i hnx;rw [ho] at ho'
    cases ho'
    have hop':=Pw (a':=a1) ((heff i hie).2 o ho) (by rw [hsz,s1.size]) (fun t ht=>by
     rw [hslot t ht,s1.slot t,Jz l1 ho t ht];rfl) hop
    refine hop'.mono ?_;rintro v w' ⟨hDw,hw⟩;have hag:∀j∈pre,H4 vals i v j=vals j:=fun j hj=>by
     have:j≠i:=fun e=>l2 (e▸hj);simp [H4,this]
    have hb':=s1.put (v:=v) h1 (by omega) l2;have hdo:o.dst=dstAt ops i:=by simp [dstAt,ho]
    rw [hdo] at hw;obtain ⟨vals',b',k1,k2⟩:=enter n (done++[i]) (pre++[i]) (H4 vals i v) _ w' hb' (fun j hj hje=>by
      rcases List.mem_append.1 hj with hj|hj
      ·exact Nk s3 hag hj (s2 j hj hje)
      ·simp at hj;subst hj;exact absurd hie hje) (s3.snoc l1) (fun j hj=>by
      rcases List.mem_append.1 hj with hj|hj
      ·exact s5 j hj
      ·simp at hj;subst hj;exact him) (fun e he=>by rw [List.mem_append,List.mem_append,s6 e he]) (fun e he=>by
      rcases List.mem_append.1 he with he|he
      ·exact s7 e he
      ·simp at he;subst he;exact hie) (List.nodup_append.2 ⟨s8,by simp,fun x hx y hy=>by simp at hy;subst hy;exact fun e=>hid (e▸hx)⟩) (by simp;omega) (fun j hj hje hAj=>by
      by_cases hold:∀e∈eff,K7 ops e j=true→e∈done
      ·exact List.mem_append_left _ (List.mem_append_left _ (s10 j hj hje hold))
      ·refine List.mem_append_right _ ?_;unfold Am;refine List.mem_filter.2 ⟨List.mem_range.2 hj,?_⟩;have hij:K7 ops i j=true:=by
        simp only [Classical.not_forall] at hold;obtain ⟨e,he,hAe,hed⟩:=hold;rcases List.mem_append.1 (hAj e he hAe) with h'|h'
        ·exact absurd h' hed
        ·simp at h';subst h';exact hAe
       simp only [Bool.and_eq_true];refine ⟨⟨by simpa using hje,List.all_eq_true.2 fun e he=>?_⟩,by simpa using hij⟩
       cases hAe:K7 ops e j with
       | false=>simp
       | true=>simpa using hAj e he hAe) l3 hw
    refine ⟨n,done++[i],_,vals',b',k2,hDw,fun j hj=>?_,fun e he=>?_,fun j hj=>?_⟩
    ·rcases Bool.or_eq_true _ _▸hj with hj|hj
     ·exact List.mem_append_left _ (List.mem_append_left _ (g2 j hj))
     ·rw [Nat.beq_eq] at hj;subst hj;exact List.mem_append_left _ (by simp)
    ·rcases List.mem_append.1 he with he|he
     ·simp [g3 e he]
     ·simp at he;subst he;simp
    ·rcases Bool.or_eq_true _ _▸hj with hj|hj
     ·have hjl:=g2 j hj;have hji:j≠i:=fun e=>l2 (e▸hjl);rw [k1 j (List.mem_append_left _ hjl),hag j hjl];simp [H4,hji,g4 j hj]
     ·rw [Nat.beq_eq] at hj;subst hj;rw [k1 j (by simp)];simp [H4]
  ·have hip:i∈pre:=s10 i him hie (fun e he hA=>(s6 e he).1 (g2 e (hanc e (Lh hA))));obtain ⟨o',ho',hr⟩:=s2 i hip hie;rw [ho] at ho'
   cases ho'
   refine .inl ((hr a1 w1 hslot g1).mono ?_);rintro v w' ⟨rfl,rfl⟩;refine ⟨n,done,pre,vals,b,⟨s1,s2,s3,s4,s5,s6,s7,s8,s9,s10,s11⟩,g1,fun j hj=>?_,fun e he=>by simp [g3 e he],fun j hj=>?_⟩
   ·rcases Bool.or_eq_true _ _▸hj with hj|hj
    ·exact g2 j hj
    ·rw [Nat.beq_eq] at hj;subst hj;exact hip
   ·rcases Bool.or_eq_true _ _▸hj with hj|hj
    ·by_cases hji:j=i
     ·subst hji;simp [H4]
     ·simp [H4,hji,g4 j hj]
    ·rw [Nat.beq_eq] at hj;subst hj;simp [H4]
 ·intro S S' σ w1 hSS hG;have:S=S':=funext hSS;rw [←this];exact hG
 ·obtain ⟨vals',b',k1,k2⟩:=enter eff.length [] [] (fun _=>undef) a _ ⟨hN,rfl,fun t=>by simp [lastW]⟩ (fun i hi=>by simp at hi) (fun pre i post e=>by simp at e) (fun i hi=>by simp at hi) (fun e he=>by simp) (fun e he=>by simp at he) List.nodup_nil (by simp) (fun i hi hie hA=>by
    refine List.mem_append_right _ (List.mem_filter.2 ⟨List.mem_range.2 hi,?_⟩);simp only [Bool.and_eq_true];refine ⟨⟨by simpa using hie,List.all_eq_true.2 fun e he=>?_⟩,rfl⟩
    cases hAe:K7 ops e i with
    | false=>simp
    | true=>exact absurd (hA e he hAe) (by simp)) h6 h
  exact ⟨_,_,_,vals',b',k2,hD,fun i hi=>by simp at hi,fun e he=>by simp at he,fun i hi=>by simp at hi⟩
 ·intro a' w' σ hNa hdf hG hslots;obtain ⟨n,done,pre,vals,b,⟨s1,s2,s3,s4,s5,s6,s7,s8,s9,s10,s11⟩,g1,g2,g3,g4⟩:=hG;have hn:n=0:=by
   have hsub:∀e∈eff,e∈done:=fun e he=>(s6 e he).1 (g2 e (Nat.blt_eq.mpr (heff e he).1));have:=Pk eff done hnde hsub;omega
  subst hn;obtain ⟨hWI,hfin⟩:=s11;have hab:a'=b:=by
   have ht:a'.tmps=b.tmps:=by
    refine Array.ext (by rw [hNa,s1.size]) (fun t ht1 ht2=>?_);have e1:=hslots t;have e2:=s1.slot t;have hsl:Ed ops a σ m t=(match lastW ops pre t with|some j=>vals j|none=>a.tmps.getD t undef):=by
     rw [hfin t];unfold Ed
     cases hs:Ee ops m t with
     | none=>rfl
     | some j=>exact g4 j (Nat.blt_eq.mpr (E9 hs).1)
    replace e1:a'.tmps.getD t undef=b.tmps.getD t undef:=e1.trans (hsl.trans e2.symm);rw [Array.getD_eq_getD_getElem?,Array.getD_eq_getD_getElem?,Array.getElem?_eq_getElem ht1,Array.getElem?_eq_getElem ht2] at e1
    simpa using e1
   cases a';cases b
   simp only at ht;subst ht;have:=hdf.trans s1.dfs.symm;simp only at this;rw [this]
  rw [hab];exact hWI
def A4b (ops:Array Oper) (m:Nat) (M:List (Nat×Value)):Bool:=M.all fun p=>(List.range m).all fun j=>match dstAt ops j with|some d=>!Nat.beq d p.1|none=>true
theorem Qx {id:Nat} {ds:List Deferred} {M:List (Nat×Value)} (m:Nat) (eff:List Nat) (Mk:List (Nat×Value)) {a:Act} {w:World} (hmo:P.follows .mixedOrders=true) (hck:(An ops N&&Jm ops m&&Fa ops m&&Dn ops&&Nat.ble m ops.size&&Fv ops m eff eff.length [] []&&eff.all (fun e=>Nat.blt e m&&(match ops[e]? with|some o=>plainOp o.op|none=>false))&&Kn eff)=true) (hF:Fr N ds M a)
  (hM:Mk.map (fun p=>lookM M p.1)=Mk.map (fun p=>some p.2)) (hk:A4b ops m Mk=true)
  (h:∀w1,Ext w w1→D w1∧WTB P r ops D m eff (fun ch w=>∀a',Fr N ds Mk a'→Q (.panic ch) a' w) (fun a w=>WI P r ops Q m a w) eff.length [] a w1):WP P r (.region id ops true) Q a w:=by
 refine Uu (B:=fun ch w=>∀a',Fr N ds Mk a'→Q (.panic ch) a' w) m eff hmo hck hF.size (fun ch a' w hz hd hs hb=>hb a' ⟨hz,hd.trans hF.defers,fun p hp=>?_⟩) (h _ (Ju w)).1 (h _ (Ju w)).2;have h1:=List.all_eq_true.1 hk p hp;rw [hs p.1 fun j hj e=>?_]
 ·exact (hF.sub hM).slot p hp
 ·have h2:=List.all_eq_true.1 h1 j (List.mem_range.2 hj);rw [e] at h2;simp at h2
end
section
variable {P:Program} {r:Option Nat} {ops:Array Oper} {K:Act→World→Prop} {N:Nat} {ds:List Deferred} {M M':FM} {a:Act} {w:World} {k:Nat} {D:World→Prop} {eff rest:List Nat}
end
end Go.Eng
