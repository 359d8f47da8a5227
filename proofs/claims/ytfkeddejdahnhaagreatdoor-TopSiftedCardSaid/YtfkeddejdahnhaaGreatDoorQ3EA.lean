import Derived.OrdersIn
import Derived.RangeFuncIn
import Derived.Below
import Derived.Laws.AppendOwn
import Derived.KernelRfl
import Derived.Laws.OwnMore
import Derived.Laws.MakeOwn
import Derived.Defers
set_option linter.unusedVariables false
set_option linter.unusedSimpArgs false
set_option linter.unusedSectionVars false
namespace Go.Eng
variable {a:Act} {w w':World} {k m n i j N t id sz:Nat} {o:Oper} {p:Addr} {P:Program} {r:Option Nat} {R:Ending->World->Prop} {ops:Array Oper} {Q:Exit->Act->World->Prop} {K:Act->World->Prop} {T:World->World->Prop} {D:World->Prop} {d:Option Tmp} {S:Array Bool} {ds:List Deferred} {s:Sem Value} {M M':List (Nat×Value)}
theorem om {p:Prop} (h:p:=by omega):p:=h
theorem sm {p:Prop} (h:p:=by simp):p:=h
theorem dc {p:Prop} (h:p:=by decide):p:=h
theorem kr {α : Sort _} {a b : α} (h : a = b := by kernel_rfl) : a = b := h
open Go Go.RowKit
abbrev Ext (w w':World):Prop:=Below w.heap.size w w'
theorem Ext.refl (w:World):Ext w w:=Below.refl _ _
theorem Ext.trans {a b c:World} (h:Ext a b) (k:Ext b c):Ext a c:=Below.trans h (Below.mono k h.size)
theorem Ext.block (h:Ext w w') {o:Obj} (b:w.heap[k]? = some o):w'.heap[k]? = some o :=
 (Below.block h k (Array.getElem?_eq_some_iff.1 b).1).trans b
theorem Ext.cell (h:Ext w w') {v:Value} (b:w.cell? p=some v):w'.cell? p=some v :=
 (Below.cell h (World.block_lt_of_cell? w p b)).trans b
def F0 (r:Option Nat):Fence:={ Fence.wide with round:=r }
theorem Wz (P:Program) (r:Option Nat) (m:Machine):m.fenced P (F0 r):=by
 intro g _;refine ⟨λh=>?_,Or.inl trivial,λ_ _=>trivial,λ_ h=>?_⟩
 ·simp [F0,Fence.wide] at h
 ·simp [F0,Fence.wide] at h
theorem B4z (r:Option Nat) (n:Nat):(F0 r).room n:=λ_ h=>by simp [F0,Fence.wide] at h
theorem A5o {m m':Machine}:StepsIn (Machine.fenced P (F0 r)) P m m'↔Steps P m m' :=
 ⟨StepsIn.steps,λh=>(StepsIn.of_steps h).mono λm _=>Wz P r m⟩
theorem A4j {m m':Machine} {e:Ending}:ComesIn (Machine.fenced P (F0 r)) P m m' e↔Comes P m m' e:=by
 cases e with
 | returned v=>exact A5o
 | panicked chain=>exact A5o
 | outgrown=>exact Iff.rfl
theorem Q7 {f:FuncId} {args:Array Value} :
  CallsIn (F0 r) n P f args w R↔Calls P f args w R :=
 ⟨λh cs=>let ⟨e,w',fr,q,s,x⟩:=h.2 cs (B4z _ _);⟨e,w',fr,q,A4j.1 s,x⟩,
  λh=>⟨trivial,λcs _=>let ⟨e,w',fr,q,s,x⟩:=h cs;⟨e,w',fr,q,A4j.2 s,x⟩⟩⟩
abbrev WP (P:Program) (r:Option Nat) (c:Code) (Q:Exit->Act->World->Prop) (a:Act) (w:World):Prop:=c.wpIn (F0 r) 0 P Q a w
def WI (P:Program) (r:Option Nat) (ops:Array Oper) (Q:Exit->Act->World->Prop) (k:Nat) (a:Act) (w:World):Prop :=
 wpOpsIn (F0 r) 0 P ops Q (List.range' k (ops.size-k)) a w
def OpR (P:Program) (r:Option Nat) (o:Oper) (a:Act) (w:World) (R:Value->World->Prop):Prop :=
 match (o.semAt r a.eval).run P w with
 | .ok (.value v) w'=>R v w'
 | .ok .skip w'=>R undef w'
 | .ok (.enter f args) w'=>Calls P f args w' (λe w''=>∃v,e=.returned v/\R v w'')
 | _=>False
def OpG (P:Program) (r:Option Nat) (ops:Array Oper) (o:Oper) (a:Act) (w:World) (R:Value->World->Prop):Prop :=
 if Region.wanted o (yielded ops a.tmps) then OpR P r o a w R else R undef w
section
theorem OpR.wpIn {R:Value->World->Prop} (h:OpR P r o a w R) (b:∀v w',R v w'->K (a.put o.dst v) w') :
  o.wpIn (F0 r) 0 P a w K Q:=by
 refine ⟨λ_ _=>trivial,?_⟩;unfold OpR at h
 change o.uponIn (F0 r) 0 P a K Q ((o.semAt r a.eval).run P w)
 generalize (o.semAt r a.eval).run P w=res at *
 cases res with
 | ok x w' =>
  cases x<;>simp only [Oper.uponIn] at h ⊢<;>first|exact b _ _ h|exact h.elim|skip
  case enter f args =>
   refine ⟨λh=>by simp [F0,Fence.wide] at h,Q7.2 ?_⟩;refine Calls.mono h ?_;rintro e w'' ⟨v,rfl,hr⟩;exact b _ _ hr
 | halt x w'=>simp only at h
theorem OpG.wpOpIn {R:Value->World->Prop} (ho:ops[i]? = some o) (h:OpG P r ops o a w R)
  (c:∀v w',R v w'->K (a.put o.dst v) w'):wpOpIn (F0 r) 0 P ops Q i K a w:=by
 unfold Go.wpOpIn OpG at *;rw [ho];simp only
 split
 ·rename_i b
  rw [if_pos b] at h;exact OpR.wpIn h c
 ·rename_i b
  rw [if_neg b] at h;exact ⟨λ_ _=>trivial,c _ _ h⟩
theorem WI.nil (h:Q .normal a w):WI P r ops Q ops.size a w:=by
 simpa [WI,wpOpsIn] using h
theorem WI.cons {R:Value->World->Prop} (ho:ops[i]? = some o) (h:OpG P r ops o a w R)
  (b:∀v w',R v w'->WI P r ops Q (i+1) (a.put o.dst v) w'):WI P r ops Q i a w:=by
 have hi:i<ops.size:=(Array.getElem?_eq_some_iff.1 ho).1;have e:List.range' i (ops.size-i)=i::List.range' (i+1) (ops.size-(i+1)):=by
  rw [show ops.size-i=(ops.size-(i+1))+1 by omega,List.range'_succ]
 unfold WI;rw [e,wpOpsIn_cons];exact h.wpOpIn ho b
theorem WI.region {id:Nat} (h:WI P r ops Q 0 a w):WP P r (.region id ops false) Q a w :=
 wpIn_region (by rw [List.range_eq_range'];exact h)
theorem OpR.mono {R R':Value->World->Prop} (h:OpR P r o a w R) (hr:∀v w',R v w'->R' v w'):OpR P r o a w R':=by
 unfold OpR at *;generalize (o.semAt r a.eval).run P w=res at *
 cases res with
 | ok x w' =>
  cases x<;>simp only at h ⊢<;>first|exact hr _ _ h|exact h.elim|skip
  case enter f args=>exact Calls.mono h (λe w'' ⟨v,e1,e2⟩=>⟨v,e1,hr _ _ e2⟩)
 | halt x w'=>simp only at h
theorem OpG.mono {R R':Value->World->Prop} (h:OpG P r ops o a w R) (hr:∀v w',R v w'->R' v w'):OpG P r ops o a w R':=by
 unfold OpG at *
 split
 ·rename_i b;rw [if_pos b] at h;exact h.mono hr
 ·rename_i b;rw [if_neg b] at h;exact hr _ _ h
end
inductive Anc (ops:Array Oper):Nat->Nat->Prop
 | one {i j:Nat} {o:Oper} {e:Edge} (ho:ops[i]? = some o) (he:e∈o.after) (hb:Region.binds .any e=true) (hj:e.on=j):Anc ops j i
 | trans {i j k:Nat} (h:Anc ops j i) (h':Anc ops k j):Anc ops k i
def A6j (acc:List Nat) (o:Oper):Nat :=
 o.after.toList.foldl (λs e=>if Region.binds .any e&&Nat.blt e.on acc.length then s ||| (2 ^ e.on ||| acc.getD e.on 0) else s) 0
def A1m:List Oper->List Nat->List Nat
 | [],acc=>acc
 | o::l,acc=>A1m l (acc++[A6j acc o])
theorem A53 {acc:List Nat} (ho:ops[acc.length]? = some o)
  (b:∀k m,acc[k]? = some m->∀i,m.testBit i=true->Anc ops i k):∀i,(A6j acc o).testBit i=true->Anc ops i acc.length:=by
 have key:∀(l:List Edge) (s:Nat),(∀e∈l,e∈o.after)->(∀i,s.testBit i=true->Anc ops i acc.length) ->
   ∀i,(l.foldl (λs e=>if Region.binds .any e&&Nat.blt e.on acc.length then s ||| (2 ^ e.on ||| acc.getD e.on 0) else s) s).testBit i=true->Anc ops i acc.length:=by
  intro l
  induction l with
  | nil=>intro s _ c i hi;exact c i hi
  | cons e l ih =>
   intro s f c;simp only [List.foldl_cons];refine ih _ (λe' g=>f e' (List.mem_cons_of_mem _ g)) ?_;intro i hi
   split at hi
   ·rename_i d
    rw [Bool.and_eq_true] at d;rw [Nat.testBit_or,Nat.testBit_or,Bool.or_eq_true,Bool.or_eq_true] at hi;rcases hi with hi|hi|hi
    ·exact c i hi
    ·rw [Nat.testBit_two_pow] at hi;have:e.on=i:=by simpa using hi
     exact .one ho (f e (List.mem_cons_self ..)) d.1 this
    ·have j:e.on<acc.length:=by have:=d.2;simpa [Nat.blt_eq] using this
     have n:acc[e.on]? = some (acc.getD e.on 0):=by rw [List.getD_eq_getElem?_getD,List.getElem?_eq_getElem j];rfl
     exact .trans (.one ho (f e (List.mem_cons_self ..)) d.1 rfl) (b _ _ n i hi)
   ·exact c i hi
 exact key o.after.toList 0 (λe he=>by simpa using he) (λi hi=>by simp at hi)
theorem A6k:∀(l:List Oper) (acc:List Nat),(∀j,l[j]? = ops[acc.length+j]?) ->
  (∀k m,acc[k]? = some m->∀i,m.testBit i=true->Anc ops i k)->∀k m,(A1m l acc)[k]? = some m->∀i,m.testBit i=true->Anc ops i k:=by
 intro l
 induction l with
 | nil=>intro acc _ h;exact h
 | cons o l ih =>
  intro acc f h;have h0:ops[acc.length]? = some o:=by simpa using (f 0).symm
  refine ih (acc++[A6j acc o]) (λj=>?_) ?_
  ·have:=f (j+1);simp only [List.getElem?_cons_succ] at this;rw [this,List.length_append];simp only [List.length_cons,List.length_nil];congr 1;omega
  ·intro k m b i hi
   by_cases c:k<acc.length
   ·rw [List.getElem?_append_left c] at b;exact h k m b i hi
   ·rw [List.getElem?_append_right om] at b;have d:k=acc.length:=by
     by_cases e:k-acc.length=0
     ·omega
     ·obtain ⟨q,g⟩:∃q,k-acc.length=q+1:=⟨k-acc.length-1,om⟩;rw [g] at b;simp at b
    subst d;simp at b;subst b;exact A53 h0 h i hi
def Yx (ops:Array Oper) (ms:List Nat):Nat->List Oper->Bool
 | _,[]=>true
 | j,y::l=>(ops.toList.zipIdx.all λp=>!Nat.blt p.2 j||p.1.apart ops y||(ms.getD j 0).testBit p.2)&&Yx ops ms (j+1) l
def Te (ops:Array Oper) (m:Nat):Bool:=Yx ops (A1m ops.toList []) 0 (ops.toList.take m)
def Nv (ops:Array Oper) (m:Nat):Bool :=
 (List.range ops.size).all λi=>Nat.blt i m||(List.range i).all λj=>((A1m ops.toList []).getD i 0).testBit j
def Kh (ops:Array Oper):Bool :=
 ops.toList.zipIdx.all λp=>p.1.after.all λe=>!Region.binds .any e||Nat.blt e.on p.2
theorem Wr (h:((A1m ops.toList []).getD j 0).testBit i=true):Anc ops i j:=by
 rw [List.getD_eq_getElem?_getD] at h
 cases b:(A1m ops.toList [])[j]? with
 | none=>rw [b] at h;simp at h
 | some m =>
  rw [b] at h;exact A6k ops.toList [] (λj=>by simp) (λk m hm=>by simp at hm) j m b i h
theorem A2f {ms:List Nat}:∀(l:List Oper) (j0:Nat),Yx ops ms j0 l=true ->
  ∀(i j:Nat) (x y:Oper),i<j0+j->ops[i]? = some x->l[j]? = some y->x.apart ops y=true\/(ms.getD (j0+j) 0).testBit i=true:=by
 intro l
 induction l with
 | nil=>intro j0 _ i j x y _ _ b;simp at b
 | cons z l ih =>
  intro j0 h i j x y k f b;rw [Yx,Bool.and_eq_true] at h
  cases j with
  | zero =>
   simp at b;subst b;have g:=h.1;rw [List.all_eq_true] at g;have c:(x,i)∈ops.toList.zipIdx:=by
    rw [List.mem_zipIdx_iff_getElem?];simpa using f
   have:=g _ c;simp only [Bool.or_eq_true,Bool.not_eq_true'] at this;rcases this with (d|d)|d
   ·have:¬i<j0:=by intro e;rw [←Nat.blt_eq,d] at e;cases e
    omega
   ·exact .inl d
   ·exact .inr d
  | succ j =>
   have:=ih (j0+1) h.2 i j x y om f (by simpa using b)
   rwa [show j0+1+j=j0+(j+1) by omega] at this
theorem Xv (h:Te ops m=true) {x y:Oper} (b:i<j) (hj:j<m) (c:ops[i]? = some x) (d:ops[j]? = some y) :
  x.apart ops y=true\/Anc ops i j:=by
 have:=A2f _ 0 h i j x y om c (by rw [List.getElem?_take,if_pos hj];simpa using d);rw [Nat.zero_add] at this;exact this.imp id Wr
theorem Wq (h:Nv ops m=true) (hi:m<=i) (hn:i<ops.size) (hj:j<i):Anc ops j i:=by
 unfold Nv at h;rw [List.all_eq_true] at h;have:=h i (List.mem_range.2 hn);rw [Bool.or_eq_true] at this;rcases this with b|b
 ·rw [Nat.blt_eq] at b;omega
 ·rw [List.all_eq_true] at b;exact Wr (b j (List.mem_range.2 hj))
theorem A3m (h:Kh ops=true) {e:Edge} (ho:ops[i]? = some o) (he:e∈o.after) (hb:Region.binds .any e=true):e.on<i:=by
 unfold Kh at h;rw [List.all_eq_true] at h;have b:(o,i)∈ops.toList.zipIdx:=by rw [List.mem_zipIdx_iff_getElem?];simpa using ho
 have:=h _ b;rw [Array.all_eq_true'] at this;have:=this e he;simp only [hb,Bool.not_true,Bool.false_or] at this;exact Nat.blt_eq.mp this
end Go.Eng
namespace Go.Eng
open Go Go.RowKit
variable {a:Act} {w w':World} {k m n i j N t id sz:Nat} {o:Oper} {p:Addr} {P:Program} {r:Option Nat} {R:Ending->World->Prop} {ops:Array Oper} {Q:Exit->Act->World->Prop} {K:Act->World->Prop} {T:World->World->Prop} {D:World->Prop} {d:Option Tmp} {S:Array Bool} {ds:List Deferred} {s:Sem Value} {M M':List (Nat×Value)}
abbrev Asn:=Value->World->Prop
def lookA:List (Nat×Asn)->Nat->Option Asn
 | [],_=>none
 | (k,φ)::E,t=>if k=t then some φ else lookA E t
def A1t (E:List (Nat×Asn)) (d:Option Tmp) (φ:Asn):List (Nat×Asn) :=
 match d with
 | some d=>(d,φ)::E
 | none=>E
def dstAt (ops:Array Oper) (i:Nat):Option Tmp:=(ops[i]?).bind (·.dst)
def EnvOk (E:List (Nat×Asn)) (a:Act) (w:World):Prop:=∀t ψ,lookA E t=some ψ->ψ (a.tmps.getD t undef) w
def Y7 (T:World->World->Prop) (φ:Asn):Prop:=∀v w w',φ v w->T w w'->φ v w'
structure Trans (T:World->World->Prop):Prop where
 refl:∀w,T w w
 trans:∀{a b c},T a b->T b c->T a c
theorem Zx:Trans Ext:=⟨Ext.refl,Ext.trans⟩
theorem Ws:Trans (λa b:World=>b=a):=⟨λ_=>rfl,λh k=>k.trans h⟩
def A4d (P:Program) (r:Option Nat) (ops:Array Oper) (T:World->World->Prop) (D:World->Prop) (E:List (Nat×Asn)) (o:Oper) (φ:Asn):Prop :=
 ∀a w,D w->(∀t∈o.looksAt ops,∀ψ,lookA E t=some ψ->ψ (a.tmps.getD t undef) w)->OpG P r ops o a w (λv w'=>T w w'/\φ v w')
def Seg (P:Program) (r:Option Nat) (ops:Array Oper) (T:World->World->Prop) (D:World->Prop):List Asn->Nat->List (Nat×Asn)->Prop
 | [],_,_=>True
 | φ::Φ,i,E=>(match ops[i]? with
   | none=>False
   | some o=>A4d P r ops T D E o φ/\(∀d,o.dst=some d->True))/\Seg P r ops T D Φ (i+1) (A1t E (dstAt ops i) φ)
def Ze (ops:Array Oper):List Asn->Nat->List (Nat×Asn)->List (Nat×Asn)
 | [],_,E=>E
 | φ::Φ,i,E=>Ze ops Φ (i+1) (A1t E (dstAt ops i) φ)
def Bg (ops:Array Oper) (N:Nat):Bool:=ops.all λo=>match o.dst with|some d=>Nat.blt d N|none=>true
section
theorem Re (h:Bg ops N=true) {d:Tmp} (ho:ops[i]? = some o) (hd:o.dst=some d):d<N:=by
 unfold Bg at h;rw [Array.all_eq_true'] at h;have hm:o∈ops:=Array.mem_of_getElem? ho;have:=h o hm;rw [hd] at this;exact Nat.blt_eq.mp this
theorem Uj (a:Act) (d:Option Tmp) (v:Value):(a.put d v).tmps.size=a.tmps.size:=by cases d<;>simp [Act.put]
theorem Rj (a:Act) (d:Option Tmp) (v:Value):(a.put d v).defers=a.defers:=by cases d<;>rfl
theorem Wj {d:Tmp} {v:Value} (h:d<a.tmps.size):(a.put (some d) v).tmps.getD d undef=v:=by
 simp [Act.put,h]
theorem Rk {t:Tmp} {v:Value} (h:d≠some t):(a.put d v).tmps.getD t undef=a.tmps.getD t undef:=by
 cases d with
 | none=>rfl
 | some d =>
  have:d≠t:=λe=>h (by rw [e]);simp [Act.put,Array.getElem?_setIfInBounds_ne this]
theorem Xo {E:List (Nat×Asn)} {φ ψ:Asn} (h:lookA (A1t E d φ) t=some ψ):(d=some t/\ψ=φ)\/(d≠some t/\lookA E t=some ψ):=by
 cases d with
 | none=>exact .inr ⟨sm,h⟩
 | some d =>
  simp only [A1t,lookA] at h
  split at h
  ·rename_i e;cases h;exact .inl ⟨by rw [e],rfl⟩
  ·rename_i e;exact .inr ⟨by simpa using e,h⟩
theorem EnvOk.push {E:List (Nat×Asn)} {φ:Asn} {v:Value} (h:EnvOk E a w) (b:∀t ψ,lookA E t=some ψ->Y7 T ψ) (f:T w w')
  (hd:∀t,d=some t->t<a.tmps.size) (hφ:φ v w'):EnvOk (A1t E d φ) (a.put d v) w':=by
 intro t ψ g;rcases Xo g with ⟨e,rfl⟩|⟨e,c⟩
 ·subst e;rw [Wj (hd t rfl)];exact hφ
 ·rw [Rk e];exact b t ψ c _ _ _ (h t ψ c) f
theorem A9s {E:List (Nat×Asn)} {φ:Asn} (h:∀t ψ,lookA E t=some ψ->Y7 T ψ) (hφ:Y7 T φ):∀t ψ,lookA (A1t E d φ) t=some ψ->Y7 T ψ:=by
 intro t ψ b;rcases Xo b with ⟨_,rfl⟩|⟨_,c⟩
 ·exact hφ
 ·exact h t ψ c
theorem A44 (s:Trans T) (x:∀w w',D w->T w w'->D w') (d:Bg ops N=true):∀(Φ:List Asn) (k:Nat) (E:List (Nat×Asn)) (a:Act) (w:World),
  Seg P r ops T D Φ k E->(∀φ∈Φ,Y7 T φ)->(∀t ψ,lookA E t=some ψ->Y7 T ψ)->D w->a.tmps.size=N->EnvOk E a w ->
  (∀a' w',T w w'->a'.tmps.size=N->a'.defers=a.defers->EnvOk (Ze ops Φ k E) a' w'->WI P r ops Q (k+Φ.length) a' w')->WI P r ops Q k a w:=by
 intro Φ
 induction Φ with
 | nil=>intro k E a w _ _ _ _ g i l;exact l a w (s.refl w) g rfl i
 | cons φ Φ ih =>
  intro k E a w y e b u g i l;obtain ⟨j,z⟩:=y
  cases ho:ops[k]? with
  | none=>rw [ho] at j;exact j.elim
  | some o =>
   rw [ho] at j;have hd:dstAt ops k=o.dst:=by simp [dstAt,ho]
   refine WI.cons ho (j.1 a w u (λt _ ψ hl=>i t ψ hl)) ?_;rintro v w' ⟨c,hφ⟩;have m:∀t,o.dst=some t->t<a.tmps.size:=λt ht=>g▸Re d ho ht;refine ih (k+1) _ _ w' z (fun ψ hψ=>e ψ (List.mem_cons_of_mem _ hψ)) (A9s b (e φ (List.mem_cons_self ..))) (x _ _ u c) (by rw [Uj];exact g) ?_ ?_
   ·rw [hd];exact i.push b c m hφ
   ·intro a' w'' f n p q;have:=l a' w'' (s.trans c f) n (p.trans (Rj _ _ _)) q
    rwa [List.length_cons,show k+(Φ.length+1)=k+1+Φ.length by omega] at this
theorem B55:∀(Φ:List Asn) (k:Nat) (E:List (Nat×Asn)),Seg P r ops T D Φ k E->∀(j:Nat) (φ:Asn),Φ[j]? = some φ ->
  ∃o,ops[k+j]? = some o/\A4d P r ops T D (Ze ops (Φ.take j) k E) o φ:=by
 intro Φ
 induction Φ with
 | nil=>intro k E _ j φ h;simp at h
 | cons φ0 Φ ih =>
  intro k E c j φ hj;obtain ⟨b,d⟩:=c
  cases j with
  | zero =>
   simp at hj;subst hj
   cases ho:ops[k]? with
   | none=>rw [ho] at b;exact b.elim
   | some o=>rw [ho] at b;exact ⟨o,sm,b.1⟩
  | succ j =>
   obtain ⟨o,ho,e⟩:=ih (k+1) _ d j φ (by simpa using hj);exact ⟨o,by rw [←ho];congr 1;omega,by simpa [Ze] using e⟩
theorem A1i:∀(Φ:List Asn) (k:Nat) (E:List (Nat×Asn)) (t:Nat) (ψ:Asn),lookA (Ze ops Φ k E) t=some ψ ->
  (∃j,dstAt ops (k+j)=some t/\(∀j',j<j'->j'<Φ.length->dstAt ops (k+j')≠some t)/\Φ[j]? = some ψ) \/
  ((∀j,j<Φ.length->dstAt ops (k+j)≠some t)/\lookA E t=some ψ):=by
 intro Φ
 induction Φ with
 | nil=>intro k E t ψ h;exact .inr ⟨λj hj=>by simp at hj,h⟩
 | cons φ Φ ih =>
  intro k E t ψ h;simp only [Ze] at h;rcases ih (k+1) _ t ψ h with ⟨j,d,f,g⟩|⟨d,f⟩
  ·refine .inl ⟨j+1,by rw [←d];congr 1;omega,λj' hj b=>?_,by simpa using g⟩;have:=f (j'-1) om (by simp at b;omega)
   rwa [show k+1+(j'-1)=k+j' by omega] at this
  ·have c:∀j',0<j'->j'<(φ::Φ).length->dstAt ops (k+j')≠some t:=λj' hj b=>by
    have:=d (j'-1) (by simp at b;omega)
    rwa [show k+1+(j'-1)=k+j' by omega] at this
   rcases Xo f with ⟨e,rfl⟩|⟨e,b⟩
   ·exact .inl ⟨0,e,λj' hj b=>c j' hj b,rfl⟩
   ·refine .inr ⟨λj hj=>?_,b⟩
    cases j with
    | zero=>exact e
    | succ j=>exact c (j+1) om hj
theorem Rt (h:S.getD i true=false):S.getD i false=false:=by
 rw [Array.getD_eq_getD_getElem?] at *
 cases hi:S[i]? with
 | none=>rw [hi] at h;simp at h
 | some b=>rw [hi] at h;simpa using h
theorem Vh (h:S.getD i false=true):i<S.size:=by
 rcases Nat.lt_or_ge i S.size with h'|h'
 ·exact h'
 ·simp [Array.getElem?_eq_none h'] at h
theorem Mt (h:i<S.size):(S.setIfInBounds i true).getD i false=true:=by simp [h]
theorem A2p:∀(l:List Bool) (i:Nat),l[i]? = some false->(l.set i true).count false+1=l.count false:=by
 intro l
 induction l with
 | nil=>intro i h;simp at h
 | cons b l ih =>
  intro i h
  cases i with
  | zero=>simp at h;subst h;simp
  | succ i =>
   simp at h;have:=ih i h
   cases b<;>simp<;>omega
theorem A2o {l:List Bool} (h:l[i]? = some false):0<l.count false:=List.count_pos_iff.2 (List.mem_of_getElem? h)
theorem Tw (h:S.getD i true=false):S.toList[i]? = some false:=by
 rw [Array.getD_eq_getD_getElem?] at h;rw [Array.getElem?_toList]
 cases hi:S[i]? with
 | none=>rw [hi] at h;simp at h
 | some b=>rw [hi] at h;simp at h;rw [h]
def Closed (ops:Array Oper) (S:Array Bool):Prop :=
 ∀i o e,S.getD i false=true->ops[i]? = some o->e∈o.after->Region.binds .any e=true->S.getD e.on false=true
theorem Anc.listed (b:Closed ops S) (h:Anc ops j i):S.getD i false=true->S.getD j false=true:=by
 induction h with
 | one ho he hb hj=>intro hi;subst hj;exact b _ _ _ hi ho he hb
 | trans _ _ ih1 ih2=>intro hi;exact ih2 (ih1 hi)
theorem Anc.ready (d:Closed ops S) (h:Anc ops j i):i∈Region.ready .any ops S->S.getD j false=true:=by
 induction h with
 | one ho he hb hj =>
  intro hi;obtain ⟨_,o,b,c⟩:=mem_ready.1 hi;rw [ho] at b;cases b
  subst hj;exact c _ he hb
 | trans _ e ih1 _=>intro hi;exact e.listed d (ih1 hi)
theorem Closed.set (f:Closed ops S) (hi:i∈Region.ready .any ops S):Closed ops (S.setIfInBounds i true):=by
 intro j o e hj ho he hb
 by_cases b:i=j
 ·subst b;obtain ⟨_,o',c,d⟩:=mem_ready.1 hi;rw [ho] at c;cases c
  exact getD_set_true (d _ he hb)
 ·rw [getD_set_ne false b] at hj;exact getD_set_true (f _ _ _ hj ho he hb)
theorem Xk (b:Kh ops=true) (d:S.size=ops.size) (h:Region.ready .any ops S=[]):∀i,i<ops.size->S.getD i false=true:=by
 intro i
 induction i using Nat.strongRecOn with
 | _ i ih =>
  intro hi
  cases hb:S.getD i false with
  | true=>rfl
  | false =>
   exfalso;have:i∈Region.ready .any ops S:=by
    rw [mem_ready];refine ⟨?_,ops[i],Array.getElem?_eq_getElem hi,λe he c=>?_⟩
    ·rw [Array.getD_eq_getD_getElem?] at hb ⊢;rw [Array.getElem?_eq_getElem om] at hb ⊢
     simpa using hb
    ·have:=A3m b (Array.getElem?_eq_getElem hi) he c;exact ih e.on this om
   rw [h] at this
   cases this
theorem Y8 (b:Kh ops=true) (c:Nv ops m=true):∀(fuel k:Nat) (S:Array Bool) (a:Act) (w:World),m<=k->S.size=ops.size ->
  Closed ops S->(∀i,S.getD i false=true↔i<k/\i<ops.size)->ops.size<=k+fuel->k<=ops.size->WI P r ops Q k a w->wpAnyIn (F0 r) 0 P .any ops Q fuel S a w:=by
 intro fuel;have fin:∀(S:Array Bool) (a:Act) (w:World),WI P r ops Q ops.size a w->Q .normal a w:=λS a w h=>by simpa [WI,wpOpsIn] using h
 have done:∀(S:Array Bool),S.size=ops.size->(∀i,i<ops.size->S.getD i false=true)->Region.ready .any ops S=[]:=by
  intro S g h;rw [List.eq_nil_iff_forall_not_mem];intro i hi;obtain ⟨h0,o,ho,_⟩:=mem_ready.1 hi;have:=h i (Array.getElem?_eq_some_iff.1 ho).1;rw [Rt h0] at this
  cases this
 induction fuel with
 | zero =>
  intro k S a w u g s d v t f;obtain rfl:k=ops.size:=om
  exact ⟨done S g (λi hi=>(d i).2 ⟨hi,hi⟩),fin S a w f⟩
 | succ fuel ih =>
  intro k S a w u g s d v t f;refine ⟨λh0=>?_,λi hi=>?_⟩
  ·have l:=Xk b g h0;have:k=ops.size:=by
    rcases Nat.lt_or_ge k ops.size with h|h
    ·have:=(d k).1 (l k h);omega
    ·omega
   subst this;exact fin S a w f
  ·obtain ⟨h0,o,ho,q⟩:=mem_ready.1 hi;have n:i<ops.size:=(Array.getElem?_eq_some_iff.1 ho).1;have x:k<=i:=by
    rcases Nat.lt_or_ge i k with h|h
    ·have:=(d i).2 ⟨h,n⟩;rw [Rt h0] at this;cases this
    ·exact h
   have:i=k:=by
    rcases Nat.lt_or_ge k i with h|h
    ·have:=(Wq c om n h).ready s hi;have:=((d k).1 this).1;omega
    ·omega
   subst this;have e:List.range' i (ops.size-i)=i::List.range' (i+1) (ops.size-(i+1)):=by
    rw [show ops.size-i=(ops.size-(i+1))+1 by omega,List.range'_succ]
   unfold WI at f;rw [e,wpOpsIn_cons] at f;refine wpOpIn_mono (λa' w' h'=>ih (i+1) _ a' w' om (by simp [g]) (s.set hi) ?_ om om h') f;intro j
   by_cases p:i=j
   ·subst p;simp only [Mt (show i<S.size by omega),true_iff];omega
   ·rw [getD_set_ne false p,d j];omega
structure AInv (ops:Array Oper) (m:Nat) (Φ:List Asn) (E:List (Nat×Asn)) (D:World->Prop) (N:Nat) (ds:List Deferred) (S:Array Bool) (a:Act) (w:World):Prop where
 ssz:S.size=ops.size
 low:∀i,S.getD i false=true->i<m
 closed:Closed ops S
 sz:a.tmps.size=N
 dfs:a.defers=ds
 tw:D w
 last:∀i d φ,S.getD i false=true->dstAt ops i=some d->(∀k,i<k->S.getD k false=true->dstAt ops k≠some d)->Φ[i]? = some φ->φ (a.tmps.getD d undef) w
 base:∀t ψ,(∀i,S.getD i false=true->dstAt ops i≠some t)->lookA E t=some ψ->ψ (a.tmps.getD t undef) w
theorem A8i {Φ:List Asn} {E:List (Nat×Asn)} (hD:∀w w',D w->T w w'->D w') (d4:Bg ops N=true) (d5:Te ops m=true) (u:Nv ops m=true) (z:Kh ops=true)
  (b3:Φ.length=m) (e7:m<=ops.size) (d6:Seg P r ops T D Φ 0 E) (e8:∀φ∈Φ,Y7 T φ) (d7:∀t ψ,lookA E t=some ψ->Y7 T ψ)
  (hK:∀a' w',D w'->a'.tmps.size=N->a'.defers=ds->EnvOk (Ze ops Φ 0 E) a' w'->WI P r ops Q m a' w') :
  ∀(fuel:Nat) (S:Array Bool) (a:Act) (w:World),AInv ops m Φ E D N ds S a w->S.toList.count false<=fuel->wpAnyIn (F0 r) 0 P .any ops Q fuel S a w:=by
 have conf:∀{i j:Nat} {x y:Oper},i<j->j<m->ops[i]? = some x->ops[j]? = some y->((∃d,x.dst=some d/\d∈y.looksAt ops)\/(∃d,x.dst=some d/\y.dst=some d)\/(∃d,y.dst=some d/\d∈x.looksAt ops))->Anc ops i j:=by
  intro i j x y b0 hj hx hy hc;rcases Xv d5 b0 hj hx hy with h|h
  ·have hs:=Oper.apart_spec h;rcases hc with ⟨d,p,h2⟩|⟨d,p,h2⟩|⟨d,p,h2⟩
   ·exact absurd h2 (hs.1 d p)
   ·exact absurd h2 (hs.2.1 d p)
   ·exact absurd h2 (hs.2.2 d p)
  ·exact h
 have full:∀(S:Array Bool) (a:Act) (w:World),AInv ops m Φ E D N ds S a w->(∀i,i<m->S.getD i false=true)->WI P r ops Q m a w:=by
  intro S a w c f;refine hK a w c.tw c.sz c.dfs ?_;intro t ψ ht;rcases A1i Φ 0 E t ψ ht with ⟨j,p,h2,h3⟩|⟨p,h2⟩
  ·have hj:j<m:=by rw [←b3];exact (List.getElem?_eq_some_iff.1 h3).1
   rw [Nat.zero_add] at p;refine c.last j t ψ (f j hj) p (λk hk g=>?_) h3;have:=h2 k hk (by rw [b3];exact c.low k g)
   rwa [Nat.zero_add] at this
  ·refine c.base t ψ (λi hi=>?_) h2;have:=p i (by rw [b3];exact c.low i hi)
   rwa [Nat.zero_add] at this
 intro fuel
 induction fuel with
 | zero =>
  intro S a w c d8;have f:∀i,i<ops.size->S.getD i false=true:=by
   intro i hi
   cases hb:S.getD i false with
   | true=>rfl
   | false =>
    have f0:S.getD i true=false:=by
     rw [Array.getD_eq_getD_getElem?] at hb ⊢;rw [Array.getElem?_eq_getElem (by rw [c.ssz];exact hi)] at hb ⊢
     simpa using hb
    have:=A2o (Tw f0);omega
  have c1:m=ops.size:=by
   rcases Nat.lt_or_ge m ops.size with h|h
   ·have:=c.low m (f m h);omega
   ·omega
  have hW:=full S a w c (λi hi=>f i om);refine Y8 z u 0 m S a w (Nat.le_refl _) c.ssz c.closed (λi=>?_) om om hW;exact ⟨λh=>⟨c.low i h,by have:=c.low i h;omega⟩,λh=>f i h.2⟩
 | succ fuel ih =>
  intro S a w c d8;refine ⟨λh0=>?_,λi hi=>?_⟩
  ·have f:=Xk z c.ssz h0;have c1:m=ops.size:=by
    rcases Nat.lt_or_ge m ops.size with h|h
    ·have:=c.low m (f m h);omega
    ·omega
   have hW:=full S a w c (λi hi=>f i om);rw [c1] at hW
   simpa [WI,wpOpsIn] using hW
  ·obtain ⟨h0,o,ho,e6⟩:=mem_ready.1 hi;have c4:i<ops.size:=(Array.getElem?_eq_some_iff.1 ho).1;have c0:¬S.getD i false=true:=by rw [Rt h0];simp
   by_cases d9:i<m
   ·
    obtain ⟨o',e0,f1⟩:=B55 Φ 0 E d6 i (Φ[i]'om) (List.getElem?_eq_getElem om);rw [Nat.zero_add,ho] at e0
    cases e0
    have hd:dstAt ops i=o.dst:=by simp [dstAt,ho]
    have c5:∀t∈o.looksAt ops,∀ψ,lookA (Ze ops (Φ.take i) 0 E) t=some ψ->ψ (a.tmps.getD t undef) w:=by
     intro t ht ψ hl;have later:∀k,i<k->S.getD k false=true->dstAt ops k≠some t:=by
      intro k hk g b5;have f2:=c.low k g;obtain ⟨y,hy,c6⟩:∃y,ops[k]? = some y/\y.dst=some t:=by
       unfold dstAt at b5
       cases hy:ops[k]? with
       | none=>rw [hy] at b5;simp at b5
       | some y=>rw [hy] at b5;exact ⟨y,rfl,by simpa using b5⟩
      exact c0 ((conf hk f2 ho hy (.inr (.inr ⟨t,c6,ht⟩))).listed c.closed g)
     rcases A1i (Φ.take i) 0 E t ψ hl with ⟨j,p,h2,h3⟩|⟨p,h2⟩
     ·rw [Nat.zero_add] at p;have b6:j<i:=by
       have:=(List.getElem?_eq_some_iff.1 h3).1;rw [List.length_take] at this;omega
      have g0:(Φ.take i).length=i:=by rw [List.length_take];omega
      obtain ⟨x,hx,f3⟩:∃x,ops[j]? = some x/\x.dst=some t:=by
       unfold dstAt at p
       cases hx:ops[j]? with
       | none=>rw [hx] at p;simp at p
       | some x=>rw [hx] at p;exact ⟨x,rfl,by simpa using p⟩
      have b2:=(conf b6 d9 hx ho (.inl ⟨t,f3,ht⟩)).ready c.closed hi;refine c.last j t ψ b2 p (λk hk g=>?_) ?_
      ·rcases Nat.lt_trichotomy k i with q|q|q
       ·have:=h2 k hk om;rwa [Nat.zero_add] at this
       ·subst q;exact absurd g c0
       ·exact later k q g
      ·rw [List.getElem?_take,if_pos b6] at h3;exact h3
     ·refine c.base t ψ (λk g=>?_) h2;rcases Nat.lt_trichotomy k i with q|q|q
      ·have:=p k (by rw [List.length_take];omega);rwa [Nat.zero_add] at this
      ·subst q;exact absurd g c0
      ·exact later k q g
    refine (f1 a w c.tw c5).wpOpIn ho ?_;rintro v w' ⟨c7,hφ⟩;refine ih _ _ _ ?_ ?_
    ·refine ⟨by simp [c.ssz],λj hj=>?_,c.closed.set hi,by rw [Uj];exact c.sz,by rw [Rj];exact c.dfs,hD _ _ c.tw c7,?_,?_⟩
     ·by_cases b0:i=j
      ·subst b0;exact d9
      ·rw [getD_set_ne false b0] at hj;exact c.low j hj
     ·intro j d φ b2 s b7 hφj
      by_cases b0:i=j
      ·subst b0;rw [hd] at s;rw [s,Wj (by rw [c.sz];exact Re d4 ho s)];have:Φ[i]? = some (Φ[i]'om):=List.getElem?_eq_getElem om;rw [this] at hφj
       cases hφj
       exact hφ
      ·rw [getD_set_ne false b0] at b2;have c8:o.dst≠some d:=by
        intro e1;rcases Nat.lt_or_ge j i with b6|b6
        ·exact b7 i b6 (Mt (by rw [c.ssz];exact c4)) (by rw [hd];exact e1)
        ·have e2:i<j:=om
         obtain ⟨y,hy,c6⟩:∃y,ops[j]? = some y/\y.dst=some d:=by
          unfold dstAt at s
          cases hy:ops[j]? with
          | none=>rw [hy] at s;simp at s
          | some y=>rw [hy] at s;exact ⟨y,rfl,by simpa using s⟩
         exact c0 ((conf e2 (c.low j b2) ho hy (.inr (.inl ⟨d,e1,c6⟩))).listed c.closed b2)
       rw [Rk c8];have e3:φ∈Φ:=List.mem_of_getElem? hφj;refine e8 φ e3 _ _ _ (c.last j d φ b2 s (λk hk g=>b7 k hk (getD_set_true g)) hφj) c7
     ·intro t ψ b8 hl;have c8:o.dst≠some t:=λe=>b8 i (Mt (by rw [c.ssz];exact c4)) (by rw [hd];exact e);rw [Rk c8];exact d7 t ψ hl _ _ _ (c.base t ψ (λk hk=>b8 k (getD_set_true hk)) hl) c7
    ·have p:=A2p S.toList i (Tw h0);have h2:(S.setIfInBounds i true).toList=S.toList.set i true:=by simp
     rw [h2];omega
   ·
    have f:∀j,j<i->S.getD j false=true:=λj hj=>(Wq u om c4 hj).ready c.closed hi;have f6:i=m:=by
     rcases Nat.lt_or_ge m i with h|h
     ·have:=c.low m (f m h);omega
     ·omega
    have hW:=full S a w c (λj hj=>f j om);have c9:∀j,S.getD j false=true↔j<m/\j<ops.size:=λj=>⟨λh=>⟨c.low j h,by have:=c.low j h;omega⟩,λh=>f j om⟩;have f4:ops.size<=m+(fuel+1):=by
     have:∀(n k:Nat) (l:List Bool),l.length=n->(∀j,k<=j->j<n->l[j]? = some false)->n<=k+l.count false:=by
      intro n
      induction n with
      | zero=>intro k l _ _;omega
      | succ n ihn =>
       intro k l hl hf
       cases l with
       | nil=>simp at hl
       | cons b l =>
        cases k with
        | zero =>
         have e4:=hf 0 (Nat.le_refl _) om;simp at e4;subst e4;have:=ihn 0 l (by simpa using hl) (λj _ hj=>by simpa using hf (j+1) om om);simp;omega
        | succ k =>
         have:=ihn k l (by simpa using hl) (λj hj d0=>by simpa using hf (j+1) om om);have g1:l.count false<=(b::l).count false:=by cases b<;>simp
         omega
     have:=this ops.size m S.toList (by simpa using c.ssz) (λj hj d0=>by
      have c3:¬S.getD j false=true:=λh=>by have:=c.low j h;omega
      rw [Array.getElem?_toList];rw [Array.getD_eq_getD_getElem?,Array.getElem?_eq_getElem (by rw [c.ssz];exact d0)] at c3;rw [Array.getElem?_eq_getElem (by rw [c.ssz];exact d0)]
      simpa using c3)
     omega
    exact (Y8 z u (fuel+1) m S a w (Nat.le_refl _) c.ssz c.closed c9 f4 e7 hW).2 i hi
theorem A6r {Φ:List Asn} {E:List (Nat×Asn)} (u:∀w w',D w->T w w'->D w') (p:P.follows .mixedOrders=true) (g:Bg ops N=true) (j:Te ops m=true) (c:Nv ops m=true)
  (f:Kh ops=true) (k:Φ.length=m) (q:m<=ops.size) (l:Seg P r ops T D Φ 0 E) (s:∀φ∈Φ,Y7 T φ) (n:∀t ψ,lookA E t=some ψ->Y7 T ψ)
  (v:a.tmps.size=N) (x:EnvOk E a { w with drawn:=w.drawn+1 }) (y:D { w with drawn:=w.drawn+1 })
  (z:∀a' w',D w'->a'.tmps.size=N->a'.defers=a.defers->EnvOk (Ze ops Φ 0 E) a' w'->WI P r ops Q m a' w') :
  WP P r (.region id ops true) Q a w:=by
 refine wpIn_region_any p ?_;have b:∀i,¬(Array.replicate ops.size false).getD i false=true:=by
  intro i h;have:=Vh h;simp at this;simp [this] at h
 refine A8i u g j c f k q l s n z ops.size _ a _ ⟨sm,λi h=>absurd h (b i),λi o e h=>absurd h (b i),v,rfl,y,λi d φ h=>absurd h (b i),λt ψ _ hl=>x t ψ hl⟩ ?_;refine Nat.le_trans List.count_le_length ?_;simp
end
end Go.Eng
namespace Go.Eng
open Go Go.RowKit
variable {a:Act} {w w':World} {k m n i j N t id sz:Nat} {o:Oper} {p:Addr} {P:Program} {r:Option Nat} {R:Ending->World->Prop} {ops:Array Oper} {Q:Exit->Act->World->Prop} {K:Act->World->Prop} {T:World->World->Prop} {D:World->Prop} {d:Option Tmp} {S:Array Bool} {ds:List Deferred} {s:Sem Value} {M M':List (Nat×Value)}
def pureSem (P:Program) {α:Type}:Sem α->Option α
 | .pure a=>some a
 | .program k=>pureSem P (k P)
 | .mark _ k=>pureSem P k
 | _=>none
theorem Bl {α:Type}:∀(s:Sem α) (a:α),pureSem P s=some a->∀w,s.run P w=.ok a w:=by
 intro s
 induction s with
 | pure b=>intro a h w;simp [pureSem] at h;subst h;rfl
 | program k ih=>intro a h w;simp only [pureSem] at h;simp only [Sem.run];exact ih P a h w
 | mark m k ih=>intro a h w;simp only [pureSem] at h;simp only [Sem.run];exact ih a h w
 | _=>intro a h w;simp [pureSem] at h
structure Cd where
 slot:Nat
 want:Bool
 p:Bool
variable {cs:List Cd}
def Br (cs:List Cd):Bool:=cs.all λc=>c.p==c.want
structure En where
 conds:List Cd
 v:Value
variable {e:En} {E:List (Nat×En)}
def En.val (e:En):Value:=bif Br e.conds then e.v else undef
def lookE:List (Nat×En)->Nat->Option En
 | [],_=>none
 | (k,e)::E,t=>bif Nat.beq k t then some e else lookE E t
def toA (E:List (Nat×En)):List (Nat×Asn):=E.map λp=>(p.1,λv _=>v=p.2.val)
theorem Qd:∀(E:List (Nat×En)) (t:Nat),lookA (toA E) t=(lookE E t).map λe=>λv _=>v=e.val:=by
 intro E
 induction E with
 | nil=>intro t;rfl
 | cons p E ih =>
  obtain ⟨k,e⟩:=p;intro t;simp only [toA,List.map_cons,lookA,lookE]
  by_cases h:k=t
  ·simp [h]
  ·have hb:Nat.beq k t=false:=by
    cases b:Nat.beq k t with
    | false=>rfl
    | true=>rw [Nat.beq_eq] at b;exact absurd b h
   simp only [if_neg h,hb,cond_false];exact ih t
def Coh (E:List (Nat×En)) (cs:List Cd):Prop:=∀c∈cs,∃e,lookE E c.slot=some e/\e.v=.bool c.p
def A38 (E:List (Nat×En)):Prop:=∀t e,lookE E t=some e->Coh E e.conds
def valid (cur:List Cd) (e:En):Bool:=e.conds.all λc=>cur.any λd=>Nat.beq d.slot c.slot&&(d.want==c.want)
theorem A01:Br cs=true↔∀c∈cs,c.p=c.want:=by simp [Br]
theorem B3k {cur:List Cd} (l:Coh E cur) (he:Coh E e.conds) (g:valid cur e=true) (m:Br cur=true):Br e.conds=true:=by
 rw [A01] at *;intro c b;unfold valid at g;rw [List.all_eq_true] at g;have:=g c b;rw [List.any_eq_true] at this;obtain ⟨d,hd,i⟩:=this;rw [Bool.and_eq_true,Nat.beq_eq] at i;obtain ⟨e1,k,j⟩:=l d hd;obtain ⟨e2,n,f⟩:=he c b;rw [i.1,n] at k
 cases k
 rw [j] at f;have o:d.p=c.p:=by injection f
 have q:d.want=c.want:=by simpa using i.2
 rw [←o,←q];exact m d hd
def rhoE (E:List (Nat×En)):Operand->Value
 | .tmp t=>match lookE E t with|some e=>e.v|none=>undef
 | .const v=>v
 | .global g=>.pointer (some ⟨g,0,none⟩)
 | .func f=>.func (.func f) #[] #[]
def okOperand (E:List (Nat×En)) (cur:List Cd):Operand->Bool
 | .tmp t=>match lookE E t with|some e=>valid cur e|none=>false
 | _=>true
def Uy (ops:Array Oper) (E:List (Nat×En)) (o:Oper):Option (List Cd) :=
 match o.guard with
 | none=>some []
 | some (j,want) =>
  match dstAt ops j with
  | none=>none
  | some g =>
   match lookE E g with
   | none=>none
   | some e=>match e.v with|.bool p=>some (⟨g,want,p⟩::e.conds)|_=>none
inductive Ob where
 | run (cs:List Cd) (s:Sem Value) (v:Value)
 | call (cs:List Cd) (f:FuncId) (args:Array Value) (v:Value)
def Ob.v:Ob->Value
 | .run _ _ v=>v
 | .call _ _ _ v=>v
def Ob.ok (P:Program) (T:World->World->Prop) (D:World->Prop):Ob->Prop
 | .run cs s v=>Br cs=true->∀w',D w'->s.run P w'=.ok v w'
 | .call cs f args v=>Br cs=true->∀w',D w'->Calls P f args w' (λe w''=>e=.returned v/\T w' w'')
def Obs (P:Program) (T:World->World->Prop) (D:World->Prop):List Ob->Prop
 | []=>True
 | o::l=>o.ok P T D/\Obs P T D l
def B2n (p:Bool):Value->Value->Value
 | .bool a,.bool b=>.bool (bif p then a else b)
 | x,y=>bif p then x else y
theorem A6o (x y:Value):B2n true x y=x:=by cases x<;>cases y<;>rfl
theorem A5a (x y:Value):B2n false x y=y:=by cases x<;>cases y<;>rfl
def plainOp:Op->Bool
 | .defer _=>false
 | .select ..=>false
 | _=>true
def eqS (op:BinOp) (t:TypeId) (xs ys:Array Value):Sem Value:=do
 eqGuard op t (.tmp 0) (.tmp 0) (.agg xs) (.agg ys)
 binOp op t (.agg xs) (.agg ys)
def Us (op:BinOp) (t:TypeId) (a b:ByteArray):Sem Value:=do
 eqGuard op t (.tmp 0) (.tmp 0) (.string a) (.string b)
 binOp op t (.string a) (.string b)
def A18 (op:BinOp) (t:TypeId):Value->Value->Option (Sem Value)
 | .agg xs,.agg ys=>some (eqS op t xs ys)
 | .string a,.string b=>some (Us op t a b)
 | .pointer (some a),.pointer (some b)=>some (binOp op t (.pointer (some a)) (.pointer (some b)))
 | _,_=>none
theorem A4r {op:BinOp} {t:TypeId} {a b:Value} (h:A18 op t a b=some s) (x y:Operand):s=(do eqGuard op t x y a b;binOp op t a b):=by
 unfold A18 at h
 split at h
 ·cases h;rfl
 ·cases h;rfl
 ·cases h;cases op<;>rfl
 ·cases h
theorem A68 {v:Value} {op:BinOp} {t:TypeId} {a b:Value} {x y:Operand} (h:A18 op t a b=some s) (hr:s.run P w=.ok v w) :
  (do let z ←(do eqGuard op t x y a b;binOp op t a b);pure (Next.value z):Sem Next).run P w=.ok (.value v) w:=by
 rw [A4r h x y] at hr;rw [Sem.run_bind,hr];rfl
def B7z:Sem Value:=stuck "nil"
def Yp (ρ:Operand->Value):Op->Option (Sem Value)
 | .load t x=>some (Instr.loadAt t (ρ x))
 | .indexAddr t x ix=>some (Instr.indexAt t (ρ x) (ρ ix))
 | .index t x ix=>some (Instr.index t (ρ x) (ρ ix))
 | .slice t x lo hi mx=>some (Instr.sliceAt t (ρ x) (lo.map ρ) (hi.map ρ) (mx.map ρ))
 | .binOp .add t x y _=>some (binOp .add t (ρ x) (ρ y))
 | .binOp .sub t x y _=>some (binOp .sub t (ρ x) (ρ y))
 | .binOp .mul t x y _=>some (binOp .mul t (ρ x) (ρ y))
 | .binOp .quo t x y _=>some (binOp .quo t (ρ x) (ρ y))
 | .binOp .rem t x y _=>some (binOp .rem t (ρ x) (ρ y))
 | .convert s t x=>some (convert s t (ρ x))
 | .binOp .eql t x y _=>A18 .eql t (ρ x) (ρ y)
 | .binOp .neq t x y _=>A18 .neq t (ρ x) (ρ y)
 | .nilCheck x=>match ρ x with
  | .pointer none=>some B7z
  | _=>none
 | .fieldAddr _ x _=>match ρ x with
  | .pointer none=>some B7z
  | _=>none
 | _=>none
theorem A04 {ρ:Operand->Value} {v:Value} (h:Yp ρ o.op=some s) (hr:s.run P w=.ok v w) :
  plainOp o.op=true/\(execOp ρ o).run P w=.ok (.value v) w:=by
 unfold Yp at h;unfold execOp
 split at h<;>rename_i b<;>(try (simp only [Option.some.injEq,reduceCtorEq] at h;done))<;>rw [b]<;>refine ⟨rfl,?_⟩
 all_goals first
  | (have h':=Option.some.inj h;subst h';simp [hr,eqGuard];done)
  | exact A68 h hr
  | (split at h<;>first|(cases h;simp [B7z,stuck,Sem.run] at hr;done)|(cases h;done))
def Ww (P:Program) (E:List (Nat×En)) (cs:List Cd) (o:Oper) (vs:List Value):Option (En×List Ob×List Value) :=
 bif o.op.operands.toList.all (okOperand E cs)&&plainOp o.op then
  match pureSem P (execOp (rhoE E) o) with
  | some (.value v)=>some (⟨cs,v⟩,[],vs)
  | some .skip=>some (⟨cs,undef⟩,[],vs)
  | some (.enter f args)=>match vs with|v::vs'=>some (⟨cs,v⟩,[.call cs f args v],vs')|[]=>none
  | _=>none
 else none
def Zf (P:Program) (ops:Array Oper) (E:List (Nat×En)) (o:Oper) (vs:List Value):Option (En×List Ob×List Value) :=
 match Uy ops E o with
 | none=>none
 | some cs =>
  match o.op with
  | .pick (.tmp t) x y =>
   match lookE E t with
   | none=>none
   | some ec =>
    match ec.v with
    | .bool p=>bif valid cs ec&&okOperand E (⟨t,true,p⟩::cs) x&&okOperand E (⟨t,false,p⟩::cs) y then some (⟨cs,B2n p (rhoE E x) (rhoE E y)⟩,[],vs) else none
    | _=>none
  | op =>
   match Yp (rhoE E) op with
   | some s =>
    bif o.op.operands.toList.all (okOperand E cs) then
     match vs with
     | v::vs'=>some (⟨cs,v⟩,[.run cs s v],vs')
     | []=>none
    else none
   | none=>Ww P E cs o vs
def A3p (d:Nat) (cs:List Cd):Bool:=cs.all λc=>!Nat.beq c.slot d
def A3y (E:List (Nat×En)) (d:Option Tmp) (e:En):List (Nat×En) :=
 match d with
 | some d=>(d,e)::E
 | none=>E
def Wv (E:List (Nat×En)) (d:Option Tmp) (e:En):Bool :=
 match d with
 | some d=>A3p d e.conds&&E.all λp=>A3p d p.2.conds
 | none=>true
def evalSeg (P:Program) (ops:Array Oper):Nat->Nat->List (Nat×En)->List Value->Option (List (Nat×En)×List Ob)
 | 0,_,E,vs=>match vs with|[]=>some (E,[])|_=>none
 | n+1,k,E,vs =>
  match ops[k]? with
  | none=>none
  | some o =>
   match Zf P ops E o vs with
   | none=>none
   | some (e,ob,vs') =>
    bif Wv E o.dst e then
     match evalSeg P ops n (k+1) (A3y E o.dst e) vs' with
     | none=>none
     | some (E',obs)=>some (E',ob++obs)
    else none
section
theorem Obs.append:∀{a b:List Ob},Obs P T D (a++b)↔Obs P T D a/\Obs P T D b:=by
 intro a
 induction a with
 | nil=>intro b;simp [Obs]
 | cons o a ih=>intro b;simp [Obs,ih,and_assoc]
theorem M8 {cur:List Cd} (d:A38 E) (i:Coh E cur) (j:Br cur=true) {x:Operand} (b:okOperand E cur x=true)
  (k:∀t,x=.tmp t->∀e,lookE E t=some e->a.tmps.getD t undef=e.val):a.eval x=rhoE E x:=by
 cases x with
 | tmp t =>
  simp only [okOperand] at b
  cases c:lookE E t with
  | none=>rw [c] at b;simp at b
  | some e =>
   rw [c] at b;have:=k t rfl e c;simp only [Act.eval,rhoE,c];rw [this];simp [En.val,B3k i (d t e c) b j]
 | const v=>rfl
 | global g=>rfl
 | func f=>rfl
theorem Rh (r:A38 E) (f:Uy ops E o=some cs)
  (y:∀t∈o.looksAt ops,∀e,lookE E t=some e->a.tmps.getD t undef=e.val):Coh E cs/\Region.wanted o (yielded ops a.tmps)=Br cs:=by
 unfold Uy at f;unfold Region.wanted
 cases i:o.guard with
 | none =>
  rw [i] at f;simp at f;subst f;exact ⟨λc k=>by simp at k,rfl⟩
 | some jw =>
  obtain ⟨j,want⟩:=jw;rw [i] at f;simp only at f
  cases hd:dstAt ops j with
  | none=>rw [hd] at f;simp at f
  | some g =>
   rw [hd] at f;simp only at f
   cases l:lookE E g with
   | none=>rw [l] at f;simp at f
   | some e =>
    rw [l] at f;simp only at f
    cases n:e.v with
    | bool p =>
     rw [n] at f;simp at f;subst f;have m:g∈o.looksAt ops:=by
      unfold Oper.looksAt;rw [i];refine List.mem_append_right _ ?_;have:(ops[j]?).bind (·.dst)=some g:=hd;simp [this]
     have d:=y g m e l;refine ⟨?_,?_⟩
     ·intro c k;rcases List.mem_cons.1 k with rfl|k
      ·exact ⟨e,l,n⟩
      ·exact r g e l c k
     ·have z:yielded ops a.tmps j=(match a.tmps[g]? with|some (.bool b)=>some b|_=>none):=by
       unfold yielded;have:(ops[j]?).bind (·.dst)=some g:=hd;rw [this];rfl
      simp only [z];rw [Array.getD_eq_getD_getElem?] at d;have s:Br (⟨g,want,p⟩::e.conds)=((p==want)&&Br e.conds):=rfl;rw [s]
      cases x:Br e.conds with
      | true =>
       have:e.val=.bool p:=by simp [En.val,x,n]
       rw [this] at d
       cases q:a.tmps[g]? with
       | none=>rw [q] at d;simp [undef] at d
       | some u =>
        rw [q] at d;simp at d;subst d
        cases p<;>cases want<;>rfl
      | false =>
       have:e.val=undef:=by simp [En.val,x]
       rw [this] at d
       cases q:a.tmps[g]? with
       | none=>simp
       | some u =>
        rw [q] at d;simp at d;subst d;simp [undef]
    | _=>rw [n] at f;simp at f
theorem Qi (h:plainOp o.op=true) (ρ:Operand->Value):o.semAt r ρ=execOp ρ o :=
 Oper.semAt_eq r ρ o (λc b=>by rw [b] at h;simp [plainOp] at h)
theorem A19 {vs vs':List Value} {ob:List Ob} (m:Trans T) (d:A38 E) (j:Uy ops E o=some cs)
  (h:Ww P E cs o vs=some (e,ob,vs')) (s:Obs P T D ob):e.conds=cs/\A4d P r ops T D (toA E) o (λv _=>v=e.val):=by
 unfold Ww at h
 cases q:(o.op.operands.toList.all (okOperand E cs)&&plainOp o.op) with
 | false=>rw [q] at h;simp at h
 | true =>
  rw [q] at h;simp only [cond_true] at h;rw [Bool.and_eq_true,List.all_eq_true] at q;obtain ⟨n,k⟩:=q;have g:∀(a:Act),(∀t∈o.looksAt ops,∀e,lookE E t=some e->a.tmps.getD t undef=e.val)->Br cs=true->o.semAt r a.eval=execOp (rhoE E) o:=by
   intro a i c;rw [Qi k];refine execOp_congr o (λcs' b hh=>by rw [hh] at k;simp [plainOp] at k) ?_;intro x hx;refine M8 d (Rh d j i).1 c (n x (by simpa using hx)) ?_;intro t u e he;refine i t ?_ e he;subst u;exact List.mem_append_left _ (List.mem_filterMap.2 ⟨.tmp t,by simpa using hx,rfl⟩)
  have slots:∀(a:Act) (w:World),(∀t∈o.looksAt ops,∀ψ,lookA (toA E) t=some ψ->ψ (a.tmps.getD t undef) w)->∀t∈o.looksAt ops,∀e,lookE E t=some e->a.tmps.getD t undef=e.val:=by
   intro a w h t u e he;have:=h t u (λv _=>v=e.val) (by rw [Qd,he];rfl);exact this
  cases y:pureSem P (execOp (rhoE E) o) with
  | none=>rw [y] at h;simp at h
  | some x =>
   rw [y] at h;have l:=Bl _ _ y
   cases x<;>simp only at h<;>try (simp at h;done)
   case value v =>
    simp at h;obtain ⟨rfl,rfl,rfl⟩:=h;refine ⟨rfl,λa w z p=>?_⟩;have i:=slots a w p;unfold OpG;rw [(Rh d j i).2]
    cases c:Br cs with
    | true=>simp only [if_true,OpR,g a i c,l w];exact ⟨m.refl w,by simp [En.val,c]⟩
    | false=>simp only [Bool.false_eq_true,if_false];exact ⟨m.refl w,by simp [En.val,c]⟩
   case skip =>
    simp at h;obtain ⟨rfl,rfl,rfl⟩:=h;refine ⟨rfl,λa w z p=>?_⟩;have i:=slots a w p;unfold OpG;rw [(Rh d j i).2]
    cases c:Br cs with
    | true=>simp only [if_true,OpR,g a i c,l w];exact ⟨m.refl w,by simp [En.val]⟩
    | false=>simp only [Bool.false_eq_true,if_false];exact ⟨m.refl w,by simp [En.val]⟩
   case enter f args =>
    cases vs with
    | nil=>simp at h
    | cons v vs0 =>
     simp at h;obtain ⟨rfl,rfl,rfl⟩:=h;refine ⟨rfl,λa w z p=>?_⟩;have i:=slots a w p;unfold OpG;rw [(Rh d j i).2]
     cases c:Br cs with
     | true =>
      simp only [if_true,OpR,g a i c,l w];exact Calls.mono (s.1 c w z) (λe' w'' ⟨h1,h2⟩=>⟨v,h1,h2,by simp [En.val,c]⟩)
     | false=>simp only [Bool.false_eq_true,if_false];exact ⟨m.refl w,by simp [En.val,c]⟩
theorem A02 {vs vs':List Value} {ob:List Ob} (hT:Trans T) (f:A38 E) (h:Zf P ops E o vs=some (e,ob,vs')) (b7:Obs P T D ob) :
  Coh E e.conds/\A4d P r ops T D (toA E) o (λv _=>v=e.val):=by
 have slots:∀(a:Act) (w:World),(∀t∈o.looksAt ops,∀ψ,lookA (toA E) t=some ψ->ψ (a.tmps.getD t undef) w)->∀t∈o.looksAt ops,∀e,lookE E t=some e->a.tmps.getD t undef=e.val:=by
  intro a w h t ht e he;have:=h t ht (λv _=>v=e.val) (by rw [Qd,he];rfl);exact this
 have cohcs:∀{cs},Uy ops E o=some cs->Coh E cs:=by
  intro cs d;unfold Uy at d
  cases b8:o.guard with
  | none=>rw [b8] at d;simp at d;subst d;exact λc i=>by simp at i
  | some jw =>
   obtain ⟨j,want⟩:=jw;rw [b8] at d;simp only at d
   cases hd:dstAt ops j with
   | none=>rw [hd] at d;simp at d
   | some g =>
    rw [hd] at d;simp only at d
    cases q:lookE E g with
    | none=>rw [q] at d;simp at d
    | some e =>
     rw [q] at d;simp only at d
     cases hv:e.v<;>rw [hv] at d<;>simp at d
     subst d;intro c i;rcases List.mem_cons.1 i with rfl|i
     ·exact ⟨e,q,hv⟩
     ·exact f g e q c i
 unfold Zf at h
 cases d:Uy ops E o with
 | none=>rw [d] at h;simp at h
 | some cs =>
  rw [d] at h;simp only at h;have opmem:∀x t,x∈o.op.operands->x=.tmp t->t∈o.looksAt ops:=by
   intro x t hx ht;subst ht;exact List.mem_append_left _ (List.mem_filterMap.2 ⟨.tmp t,by simpa using hx,rfl⟩)
  have plain:Ww P E cs o vs=some (e,ob,vs')->Coh E e.conds/\A4d P r ops T D (toA E) o (λv _=>v=e.val):=λh'=>by
   have:=A19 (r:=r) hT f d h' b7;exact ⟨by rw [this.1];exact cohcs d,this.2⟩
  split at h
  ·rename_i t x y n
   cases q:lookE E t with
   | none=>rw [q] at h;simp at h
   | some ec =>
    rw [q] at h;simp only at h
    cases hv:ec.v<;>rw [hv] at h<;>simp only at h<;>try (simp at h;done)
    rename_i p
    cases i:(valid cs ec&&okOperand E (⟨t,true,p⟩::cs) x&&okOperand E (⟨t,false,p⟩::cs) y) with
    | false=>rw [i] at h;simp at h
    | true =>
     rw [i] at h;simp at h;obtain ⟨rfl,rfl,rfl⟩:=h;rw [Bool.and_eq_true,Bool.and_eq_true] at i;refine ⟨cohcs d,λa w hw z=>?_⟩;have hs:=slots a w z;unfold OpG;rw [(Rh f d hs).2];have u:∀b,Coh E (⟨t,b,p⟩::cs):=λb c b1=>by
      rcases List.mem_cons.1 b1 with rfl|b1
      ·exact ⟨ec,q,hv⟩
      ·exact cohcs d c b1
     cases m:Br cs with
     | false=>simp only [Bool.false_eq_true,if_false];exact ⟨hT.refl w,by simp [En.val,m]⟩
     | true =>
      have b9:x∈o.op.operands:=by rw [n];simp [Op.operands]
      have c0:y∈o.op.operands:=by rw [n];simp [Op.operands]
      have c1:Operand.tmp t∈o.op.operands:=by rw [n];simp [Op.operands]
      have c4:a.eval (.tmp t)=.bool p:=by
       have:=M8 (x:=.tmp t) (a:=a) f (cohcs d) m (by simp [okOperand,q,i.1.1]) (λt' k e' l=>hs t' (opmem _ _ c1 k) e' l);rw [this];simp [rhoE,q,hv]
      have c2:o.semAt r a.eval=execOp a.eval o:=Qi (by rw [n];rfl) _;simp only [if_true,OpR,c2];unfold execOp;rw [n];simp only [c4]
      cases p with
      | true =>
       have hx:=M8 (a:=a) f (u true) (by simp [Br] at m ⊢;exact m) i.1.2 (λt' k e' l=>hs t' (opmem _ _ b9 k) e' l);exact ⟨hT.refl w,by simp [En.val,m,A6o,hx]⟩
      | false =>
       have hy:=M8 (a:=a) f (u false) (by simp [Br] at m ⊢;exact m) i.2 (λt' k e' l=>hs t' (opmem _ _ c0 k) e' l);exact ⟨hT.refl w,by simp [En.val,m,A5a,hy]⟩
  ·cases hh:Yp (rhoE E) o.op with
   | none=>rw [hh] at h;exact plain h
   | some s =>
    rw [hh] at h;simp only at h
    cases i:o.op.operands.toList.all (okOperand E cs) with
    | false=>rw [i] at h;simp at h
    | true =>
     rw [i] at h;simp only [cond_true] at h;rw [List.all_eq_true] at i
     cases vs with
     | nil=>simp at h
     | cons v vs0 =>
      simp at h;obtain ⟨rfl,rfl,rfl⟩:=h;refine ⟨cohcs d,λa w hw z=>?_⟩;have hs:=slots a w z;unfold OpG;rw [(Rh f d hs).2]
      cases m:Br cs with
      | false=>simp only [Bool.false_eq_true,if_false];exact ⟨hT.refl w,by simp [En.val,m]⟩
      | true =>
       have b2:=A04 hh (b7.1 m w hw);have b3:execOp a.eval o=execOp (rhoE E) o:=by
        refine execOp_congr o (λcs' b c6=>by have:=b2.1;rw [c6] at this;simp [plainOp] at this) ?_;intro x hx;exact M8 f (cohcs d) m (i x (by simpa using hx)) (λt' k e' l=>hs t' (opmem _ _ hx k) e' l)
       simp only [if_true,OpR,Qi b2.1,b3,b2.2];exact ⟨hT.refl w,by simp [En.val,m]⟩
theorem A03 {d:Nat} (h:A3p d cs=true):∀c∈cs,c.slot≠d:=by
 intro c b e;unfold A3p at h;rw [List.all_eq_true] at h;have:=h c b;rw [e] at this;simp at this
theorem A2x:∀{E:List (Nat×En)} {t:Nat} {e:En},lookE E t=some e->(t,e)∈E:=by
 intro E
 induction E with
 | nil=>intro t e h;simp [lookE] at h
 | cons p E ih =>
  obtain ⟨k,e0⟩:=p;intro t e h;simp only [lookE] at h
  cases hb:Nat.beq k t with
  | true=>rw [hb] at h;simp at h;rw [Nat.beq_eq] at hb;subst hb;subst h;exact List.mem_cons_self ..
  | false=>rw [hb] at h;simp at h;exact List.mem_cons_of_mem _ (ih h)
theorem A7g (h:A38 E) (he:Coh E e.conds) (g:Wv E d e=true):A38 (A3y E d e):=by
 cases d with
 | none=>exact h
 | some d =>
  unfold Wv at g;rw [Bool.and_eq_true,List.all_eq_true] at g;have lift:∀cs,Coh E cs->(∀c∈cs,c.slot≠d)->Coh (A3y E (some d) e) cs:=by
   intro cs i f c j;obtain ⟨e',k,l⟩:=i c j;refine ⟨e',?_,l⟩;simp only [A3y,lookE];have:Nat.beq d c.slot=false:=by
    cases hb:Nat.beq d c.slot with
    | false=>rfl
    | true=>rw [Nat.beq_eq] at hb;exact absurd hb.symm (f c j)
   rw [this];exact k
  intro t e' b;simp only [A3y,lookE] at b
  cases hb:Nat.beq d t with
  | true=>rw [hb] at b;simp at b;subst b;exact lift _ he (A03 g.1)
  | false=>rw [hb] at b;simp at b;exact lift _ (h t e' b) (A03 (g.2 _ (A2x b)))
theorem A8c (E:List (Nat×En)) (d:Option Tmp) (e:En):toA (A3y E d e)=A1t (toA E) d (λv _=>v=e.val):=by cases d<;>rfl
theorem Yh (l:Trans T):∀(n k:Nat) (E E':List (Nat×En)) (vs:List Value) (obs:List Ob),evalSeg P ops n k E vs=some (E',obs)->A38 E->Obs P T D obs ->
  ∃Φ:List Asn,Φ.length=n/\Seg P r ops T D Φ k (toA E)/\(∀φ∈Φ,Y7 T φ)/\Ze ops Φ k (toA E)=toA E':=by
 intro n
 induction n with
 | zero =>
  intro k E E' vs obs h _ _
  cases vs with
  | nil=>simp [evalSeg] at h;exact ⟨[],rfl,trivial,λ_ hφ=>by simp at hφ,by rw [h.1];rfl⟩
  | cons=>simp [evalSeg] at h
 | succ n ih =>
  intro k E E' vs obs h j d;simp only [evalSeg] at h
  cases ho:ops[k]? with
  | none=>rw [ho] at h;simp at h
  | some o =>
   rw [ho] at h;simp only at h
   cases f:Zf P ops E o vs with
   | none=>rw [f] at h;simp at h
   | some x =>
    obtain ⟨e,ob,vs'⟩:=x;rw [f] at h;simp only at h
    cases g:Wv E o.dst e with
    | false=>rw [g] at h;simp at h
    | true =>
     rw [g] at h;simp only [cond_true] at h
     cases hr:evalSeg P ops n (k+1) (A3y E o.dst e) vs' with
     | none=>rw [hr] at h;simp at h
     | some y =>
      obtain ⟨E1,obs1⟩:=y;rw [hr] at h;simp at h;obtain ⟨rfl,rfl⟩:=h;rw [Obs.append] at d;obtain ⟨m,p⟩:=A02 (r:=r) l j f d.1;obtain ⟨Φ,q,b,i,c⟩:=ih (k+1) _ _ _ _ hr (A7g j m g) d.2;have hd:dstAt ops k=o.dst:=by simp [dstAt,ho]
      rw [A8c] at b c;refine ⟨(λv _=>v=e.val)::Φ,by simp [q],⟨by rw [ho];exact ⟨p,λ_ _=>trivial⟩,by rw [hd];exact b⟩,?_,?_⟩
      ·intro φ hφ;rcases List.mem_cons.1 hφ with rfl|hφ
       ·exact λ_ _ _ s _=>s
       ·exact i φ hφ
      ·simp only [Ze,hd];exact c
end
structure Fr (N:Nat) (ds:List Deferred) (M:List (Nat×Value)) (a:Act):Prop where
 size:a.tmps.size=N
 defers:a.defers=ds
 slot:∀p∈M,a.tmps.getD p.1 undef=p.2
def ofM (M:List (Nat×Value)):List (Nat×En):=M.map λp=>(p.1,⟨[],p.2⟩)
theorem X3 (h:lookE (ofM M) t=some e):e.conds=[]/\(t,e.v)∈M:=by
 have:=A2x h;unfold ofM at this;obtain ⟨p,b,he⟩:=List.mem_map.1 this;obtain ⟨rfl,rfl⟩:=Prod.mk.inj he;exact ⟨rfl,b⟩
theorem Yd (M:List (Nat×Value)):A38 (ofM M):=λt e h c b=>by rw [(X3 h).1] at b;simp at b
theorem Ue (h:Fr N ds M a) (w:World):EnvOk (toA (ofM M)) a w:=by
 intro t ψ b;rw [Qd] at b
 cases c:lookE (ofM M) t with
 | none=>rw [c] at b;simp at b
 | some e =>
  rw [c] at b;simp at b;subst b;obtain ⟨d,f⟩:=X3 c;have:=h.slot _ f;simp only at this;rw [this];simp [En.val,d,Br]
theorem Wo (T:World->World->Prop) (E:List (Nat×En)):∀t ψ,lookA (toA E) t=some ψ->Y7 T ψ:=by
 intro t ψ b;rw [Qd] at b
 cases c:lookE E t with
 | none=>rw [c] at b;simp at b
 | some e=>rw [c] at b;simp at b;subst b;exact λ_ _ _ d _=>d
structure Ends (P:Program) (ops:Array Oper) (n k:Nat) (M M':List (Nat×Value)) (obs:List Ob):Prop where
 eq:((evalSeg P ops n k (ofM M) (obs.map Ob.v)).map λx=>(M'.map (λp=>lookE x.1 p.1),x.2))=some (M'.map (λp=>some ⟨[],p.2⟩),obs)
section
variable {obs:List Ob}
theorem Zd (j:Trans T) (h:Ends P ops n k M M' obs) (D:World->Prop) (e:Obs P T D obs):∃(Φ:List Asn),Φ.length=n/\Seg P r ops T D Φ k (toA (ofM M))/\(∀φ∈Φ,Y7 T φ) /\
  ∀a' w',a'.tmps.size=N->a'.defers=ds->EnvOk (Ze ops Φ k (toA (ofM M))) a' w'->Fr N ds M' a':=by
 have h:=h.eq
 cases b:evalSeg P ops n k (ofM M) (obs.map Ob.v) with
 | none=>rw [b] at h;simp at h
 | some x =>
  obtain ⟨E',obs'⟩:=x;rw [b] at h;simp only [Option.map_some,Option.some.injEq,Prod.mk.injEq] at h;obtain ⟨l,rfl⟩:=h;obtain ⟨Φ,m,c,f,d⟩:=Yh (r:=r) j n k _ _ _ _ b (Yd M) e;refine ⟨Φ,m,c,f,λa' w' o hd i=>⟨o,hd,?_⟩⟩;intro p q;rw [d] at i;have g:lookE E' p.1=some ⟨[],p.2⟩:=List.map_inj_left.1 l p q;have:=i p.1 (λv _=>v=(⟨[],p.2⟩:En).val) (by rw [Qd,g];rfl)
  simpa [En.val,Br] using this
theorem A5e (k':Nat) (M':List (Nat×Value)) (f:Fr N ds M a) (c:Bg ops N=true) (g:Obs P (λa b=>b=a) (λx=>x=w) obs) (h:Ends P ops n k M M' obs) (j:k+n=k')
  (next:∀a',Fr N ds M' a'->WI P r ops Q k' a' w):WI P r ops Q k a w:=by
 obtain ⟨Φ,l,d,i,e⟩:=Zd (r:=r) (N:=N) (ds:=ds) Ws h (λx=>x=w) g;refine A44 Ws (λ_ _ h k=>k.trans h) c Φ k _ a w d i (Wo _ _) rfl f.size (Ue f w) ?_;intro a' w' m o hd p;subst m;rw [l,j];exact next a' (e a' w' o (hd.trans f.defers) p)
theorem C0h (k':Nat) (M':List (Nat×Value)) (e:Fr N ds M a) (b:Bg ops N=true) (f:Obs P Ext (Ext w) obs) (h:Ends P ops n k M M' obs) (i:k+n=k')
  (next:∀a' w',Fr N ds M' a'->Ext w w'->WI P r ops Q k' a' w'):WI P r ops Q k a w:=by
 obtain ⟨Φ,j,c,g,d⟩:=Zd (r:=r) (N:=N) (ds:=ds) Zx h (Ext w) f;refine A44 Zx (λ_ _ h k=>h.trans k) b Φ k _ a w c g (Wo _ _) (Ext.refl w) e.size (Ue e w) ?_;intro a' w' l m hd o;rw [j,i];exact next a' w' (d a' w' m (hd.trans e.defers) o) l
theorem Vy (w:World):Ext w { w with drawn:=w.drawn+1 }:=⟨rfl,rfl,rfl,Nat.le_refl _,λ_ _=>rfl⟩
theorem C0g (m:Nat) (M':List (Nat×Value)) (e:P.follows .mixedOrders=true) (f:Fr N ds M a) (b:(Bg ops N&&Te ops m&&Nv ops m&&Kh ops&&Nat.ble m ops.size)=true) (g:Obs P Ext (Ext w) obs)
  (h:Ends P ops m 0 M M' obs) (next:∀a' w',Fr N ds M' a'->Ext w w'->WI P r ops Q m a' w'):WP P r (.region id ops true) Q a w:=by
 rw [Bool.and_eq_true,Bool.and_eq_true,Bool.and_eq_true,Bool.and_eq_true] at b;obtain ⟨⟨⟨⟨l,n⟩,o⟩,p⟩,q⟩:=b;have i:=Vy w;obtain ⟨Φ,s,c,j,d⟩:=Zd (r:=r) (N:=N) (ds:=ds) Zx h (Ext w) g;refine A6r (λ_ _ h k=>Ext.trans h k) e l n o p s (Nat.le_of_ble_eq_true q) c j (Wo _ _) f.size (Ue f _) i ?_;intro a' w' t u hd v;exact next a' w' (d a' w' u (hd.trans f.defers) v) t
end
end Go.Eng
namespace Go.Eng
open Go Go.RowKit
variable {a:Act} {w w':World} {k m n i j N t id sz:Nat} {o:Oper} {p:Addr} {P:Program} {r:Option Nat} {e:En} {R:Ending->World->Prop} {ops:Array Oper} {Q:Exit->Act->World->Prop} {K:Act->World->Prop} {T:World->World->Prop} {D:World->Prop} {d:Option Tmp} {E:List (Nat×En)} {S:Array Bool} {ds:List Deferred} {cs:List Cd} {s:Sem Value} {M M':List (Nat×Value)}
section
theorem A5 (h:K a w):Exit.then K Q .normal a w:=h
theorem A8 (h:Q .normal a w):Exit.inBlock id Q .normal a w:=h
theorem Aj (h:Q .ret a w):Exit.then K Q .ret a w:=h
theorem Ax (h:Q .ret a w):Exit.inBlock id Q .ret a w:=h
theorem Aa (h:Q (.exit id) a w):Exit.then K Q (.exit id) a w:=h
theorem As (h:Q .normal a w):Exit.inBlock id Q (.exit id) a w:=by simpa [Exit.inBlock] using h
theorem Wx {id':Nat} (b:Nat.beq id' id=false) (h:Q (.exit id') a w):Exit.inBlock id Q (.exit id') a w:=by
 have:id'≠id:=λe=>by rw [e] at b;simp at b
 simpa [Exit.inBlock,this] using h
theorem Bh {c:List PanicEntry} (h:Q (.panic c) a w):Exit.then K Q (.panic c) a w:=h
theorem Cp {c:List PanicEntry} (h:Q (.panic c) a w):Exit.inBlock id Q (.panic c) a w:=h
theorem WI.fin {ops:Array Oper} {k:Nat} (b:Nat.beq k ops.size=true) (h:Q .normal a w):WI P r ops Q k a w:=by
 rw [Nat.beq_eq] at b;rw [b];exact WI.nil h
theorem Ak {x y:Code} (h:WP P r x (Exit.then (λa w=>WP P r y Q a w) Q) a w):WP P r (.seq x y) Q a w:=wpIn_seq h
theorem C1 {x y:Code} (K:Act->World->Prop) (h:WP P r x (Exit.then K Q) a w) (b:∀a w,K a w->WP P r y Q a w):WP P r (.seq x y) Q a w :=
 wpIn_seq (wpIn_mono h λe a w q=>by cases e<;>first|exact b _ _ q|exact q)
def lookM:List (Nat×Value)->Nat->Option Value
 | [],_=>none
 | (k,v)::M,t=>bif Nat.beq k t then some v else lookM M t
theorem A9b:∀{M:List (Nat×Value)} {t:Nat} {v:Value},lookM M t=some v->(t,v)∈M:=by
 intro M
 induction M with
 | nil=>intro t v h;simp [lookM] at h
 | cons p M ih =>
  obtain ⟨k,v0⟩:=p;intro t v h;simp only [lookM] at h
  cases hb:Nat.beq k t with
  | true=>rw [hb] at h;simp at h;rw [Nat.beq_eq] at hb;subst hb;subst h;exact List.mem_cons_self ..
  | false=>rw [hb] at h;simp at h;exact List.mem_cons_of_mem _ (ih h)
theorem Fr.get (h:Fr N ds M a) {v:Value} (b:lookM M t=some v):a.tmps.getD t undef=v:=h.slot _ (A9b b)
theorem Fr.sub (h:Fr N ds M a) (b:M'.map (λp=>lookM M p.1)=M'.map (λp=>some p.2)):Fr N ds M' a :=
 ⟨h.size,h.defers,λp c=>h.get (List.map_inj_left.1 b p c)⟩
theorem B0u {c:Nat} {x y:Code} {t:Bool} (b:Fr N ds M a) (d:lookM M c=some (.bool t)) (e:t=true->WP P r x Q a w) (f:t=false->WP P r y Q a w):WP P r (.cond (.tmp c) x y) Q a w :=
 wpIn_cond_split (t:=t) (b.get d) e f
theorem C2 {c:Code} (I:Nat->Act->World->Prop) (n0:Nat) (h0:I n0 a w)
  (round:∀n a w,I n a w->WP P r c (Exit.then (λa' w'=>∃n',n'<n/\I n' a' w') Q) a w):WP P r (.loop c) Q a w:=by
 intro b k cs g hb hr;have key:∀n a w,I n a w->∃e a' w',Q e a' w'/\ArrivesIn (Machine.fenced P (F0 r)) P (lone (b.atR a (.code c::.inLoop c::k)) cs w) b k cs e a' w':=by
  intro n
  induction n using Nat.strongRecOn with
  | _ n ih =>
   intro a w j;obtain ⟨e,a₁,w₁,f,d⟩:=round n a w j b (.inLoop c::k) cs g hb hr
   cases e with
   | normal =>
    obtain ⟨n',i,hI₁⟩:=f;obtain ⟨e₂,a₂,w₂,hq₂,harr₂⟩:=ih n' i a₁ w₁ hI₁;exact ⟨e₂,a₂,w₂,hq₂,.of_steps (StepsIn.trans d (.one (Wz _ _ _) stepR_inLoop)) harr₂⟩
   | exit id=>exact ⟨_,a₁,w₁,f,.pass (x:=.inLoop c) rfl (λ_ _=>.inl sm) d⟩
   | goto l=>exact ⟨_,a₁,w₁,f,.pass (x:=.inLoop c) rfl (λ_ _=>.inl sm) d⟩
   | ret=>exact ⟨_,a₁,w₁,f,.pass (x:=.inLoop c) rfl (λ_ _=>.inl sm) d⟩
   | panic ch=>exact ⟨_,a₁,w₁,f,.pass (x:=.inLoop c) rfl (λ_ _=>.inl sm) d⟩
   | outgrown=>exact ⟨_,a₁,w₁,f,.pass (x:=.inLoop c) rfl (λ_ _=>.inl sm) d⟩
 obtain ⟨e,a',w',f,d⟩:=key n0 a w h0;exact ⟨e,a',w',f,.of_steps (.one (Wz _ _ _) stepR_loop) d⟩
theorem B14 {f:FuncId} {fn:Func} {c:Code} {args:Array Value} (e:P.funcs[f]? = some fn) (hb:fn.body=some c) (N:Nat) (M:List (Nat×Value)) (d:fn.ntmps=N)
  (b:Nat.ble args.size N=true) (g:M.map (λp=>(args++Array.replicate (N-args.size) undef).getD p.1 undef)=M.map Prod.snd) (h:∀a,Fr N [] M a->WP P none c (bodyPost P fn R) a w):Calls P f args w R:=by
 refine Q7 (r:=none) (n:=0) |>.1 (callsIn_of_wp e hb trivial ?_ rfl);refine h _ ⟨?_,rfl,λp i=>?_⟩
 ·have:=Nat.le_of_ble_eq_true b;simp [d];omega
 ·rw [d];exact List.map_inj_left.1 g p i
def Y6 (P:Program) (w:World) (M:List (Nat×Value)):List ResultVar->List Value->Prop
 | [],[]=>True
 | .tmp t::rs,v::vs=>lookM M t=some v/\Y6 P w M rs vs
 | .cell p ty::rs,v::vs=>(∃ad,lookM M p=some (.pointer (some ad))/\(loadVar ty ad).run P w=.ok v w)/\Y6 P w M rs vs
 | _,_=>False
def Xz (tmps:Array Value):ResultVar->Sem Value
 | .tmp t=>pure (tmps.getD t undef)
 | .cell p t=>do loadVar t (←asAddr (tmps.getD p undef))
theorem Zt:∀(rs:List ResultVar) (vs:List Value),Y6 P w M rs vs->Fr N ds M a->(rs.mapM (Xz a.tmps)).run P w=.ok vs w:=by
 intro rs
 induction rs with
 | nil=>intro vs h _;cases vs with|nil=>simp|cons=>exact h.elim
 | cons x rs ih =>
  intro vs h b
  cases vs with
  | nil=>cases x<;>exact h.elim
  | cons v vs =>
   rw [List.mapM_cons];have f:(Xz a.tmps x).run P w=.ok v w/\Y6 P w M rs vs:=by
    cases x with
    | tmp t =>
     obtain ⟨c,d⟩:=h;refine ⟨?_,d⟩;simp only [Xz];rw [b.get c];rfl
    | cell p ty =>
     obtain ⟨⟨ad,c,e⟩,d⟩:=h;refine ⟨?_,d⟩;simp only [Xz];rw [b.get c];simp [asAddr,e]
   rw [Sem.run_bind,f.1,Result.andThen_ok,Sem.run_bind,ih vs f.2 b];simp
theorem Bx {fn:Func} (rs:List ResultVar) (vs:List Value) (c:Fr N [] M a) (b:fn.results=rs.toArray) (h:Y6 P w M rs vs)
  (d:R (.returned (match vs with|[v]=>v|_=>.tuple vs.toArray)) w):bodyPost P fn R .ret a w:=by
 refine ⟨c.defers,_,?_,d⟩;have hm:=Zt (a:=a) rs vs h c;have e:results fn a.tmps=(do let vs ←fn.results.mapM (Xz a.tmps);pure (if h:vs.size=1 then vs[0] else .tuple vs)):=by
  unfold results
  congr 1
 rw [e,b,List.mapM_toArray];simp [hm];rcases vs with _|⟨v,_|⟨u,vs⟩⟩<;>simp
theorem Ql {fn:Func} (c:Fr N [] M a) (b:fn.results=#[]) (d:R (.returned (.tuple #[])) w):bodyPost P fn R .normal a w:=by
 refine ⟨c.defers,_,?_,d⟩;simp [results,b]
end
def Blk (w:World) (b:Nat) (t:TypeId) (cs:Array Value):Prop:=w.heap[b]? = some (.cells cs t (0,0))
structure Res where
 foot:Nat->Prop
 holds:World->Prop
 loc:∀w w',(∀b,foot b->w'.heap[b]? = w.heap[b]?)->holds w->holds w'
 lt:∀w b,holds w->foot b->b<w.heap.size
variable {H:List Res}
def blk (b:Nat) (t:TypeId) (cs:Array Value):Res where
 foot:=λk=>k=b
 holds:=λw=>Blk w b t cs
 loc:=λw w' h hb=>(h b rfl).trans hb
 lt:=λw k hb hk=>by subst hk;exact (Array.getElem?_eq_some_iff.1 hb).1
def vec (v:Value) (e:TypeId) (sz n:Nat) (xs:List Value):Res where
 foot:=λk=>v.ownBlock=some k
 holds:=λw=>w.ownsRow 0 e sz v n xs
 loc:=λw w' h hb=>by
  refine ⟨hb.1,?_⟩;rcases hb.2 with hn|⟨g,cap,cur,rfl,hz,hg,rest⟩
  ·exact .inl hn
  ·exact .inr ⟨g,cap,cur,rfl,hz,(h g rfl).trans hg,rest⟩
 lt:=λw k hb hk=>(hb.lt k hk).2
structure St (w0:World) (H:List Res) (w:World):Prop where
 ext:Ext w0 w
 holds:∀R∈H,R.holds w
 low:∀R∈H,∀b,R.foot b->w0.heap.size<=b
 apart:H.Pairwise λR S=>∀b,R.foot b->¬S.foot b
section
variable {w0:World}
theorem St.cast {w1:World} (h:St w0 H w1) (b:w=w1):St w0 H w:=b▸h
theorem St.init (w:World):St w [] w:=⟨Ext.refl w,λ_ h=>by simp at h,λ_ h=>by simp at h,.nil⟩
theorem Res.later {R:Res} (h:R.holds w) (c:Ext w w'):R.holds w':=R.loc w w' (λb hb=>Below.block c b (R.lt w b h hb)) h
theorem St.later (h:St w0 H w) (b:Ext w w'):St w0 H w':=⟨h.ext.trans b,λR c=>Res.later (h.holds R c) b,h.low,h.apart⟩
theorem St.push {R:Res} (h:St w0 H w) (f:Ext w w') (g:R.holds w') (e:∀b,R.foot b->w.heap.size<=b):St w0 (R::H) w':=by
 have h':=h.later f;refine ⟨h'.ext,λS c=>?_,λS c b hb=>?_,?_⟩
 ·rcases List.mem_cons.1 c with rfl|c
  ·exact g
  ·exact h'.holds S c
 ·rcases List.mem_cons.1 c with rfl|c
  ·exact Nat.le_trans h.ext.size (e b hb)
  ·exact h'.low S c b hb
 ·refine List.pairwise_cons.2 ⟨λS c b hb d=>?_,h'.apart⟩;have:=S.lt w b (h.holds S c) d;have:=e b hb;omega
theorem St.sub {H':List Res} (h:St w0 H w) (b:H'.Sublist H):St w0 H' w :=
 ⟨h.ext,λR c=>h.holds R (b.subset c),λR c=>h.low R (b.subset c),h.apart.sublist b⟩
theorem St.perm {H':List Res} (h:St w0 H w) (c:H.Perm H'):St w0 H' w :=
 ⟨h.ext,λR d=>h.holds R (c.mem_iff.2 d),λR d=>h.low R (c.mem_iff.2 d),(c.pairwise_iff (λe b f g=>e b g f)).1 h.apart⟩
theorem St.drop1 {R:Res} (h:St w0 (R::H) w):St w0 H w:=h.sub (List.sublist_cons_self ..)
theorem St.upd {R R':Res} (h:St w0 H w) (hi:H[i]? = some R) (z:w'.os=w.os) (b0:w'.tape=w.tape) (o:w'.output=w.output) (b1:w.heap.size<=w'.heap.size)
  (hb:∀k,k<w.heap.size->¬R.foot k->w'.heap[k]? = w.heap[k]?) (b2:R'.holds w') (hf:∀k,R'.foot k->R.foot k\/w.heap.size<=k):St w0 (H.set i R') w':=by
 have g:R∈H:=List.mem_of_getElem? hi;have f:i<H.length:=(List.getElem?_eq_some_iff.1 hi).1;have other:∀j S,j≠i->H[j]? = some S->∀k,S.foot k->¬R.foot k:=by
  intro j S hj l k b e;have r:j<H.length:=(List.getElem?_eq_some_iff.1 l).1;have e1:H[j]=S:=(List.getElem?_eq_some_iff.1 l).2;have e2:H[i]=R:=(List.getElem?_eq_some_iff.1 hi).2;rcases Nat.lt_or_gt_of_ne hj with b3|b4
  ·have:=List.pairwise_iff_getElem.1 h.apart j i r f b3;rw [e1,e2] at this;exact this k b e
  ·have:=List.pairwise_iff_getElem.1 h.apart i j f r b4;rw [e1,e2] at this;exact this k e b
 have getset:∀S,S∈H.set i R'->S=R'\/∃j,j≠i/\H[j]? = some S:=by
  intro S l;obtain ⟨j,hj⟩:=List.mem_iff_getElem?.1 l
  by_cases c:j=i
  ·subst c;rw [List.getElem?_set_self f] at hj;exact .inl (by cases hj;rfl)
  ·rw [List.getElem?_set_ne (Ne.symm c)] at hj;exact .inr ⟨j,c,hj⟩
 refine ⟨?_,?_,?_,?_⟩
 ·refine ⟨z.trans h.ext.os,b0.trans h.ext.tape,o.trans h.ext.output,Nat.le_trans h.ext.size b1,λk b=>?_⟩;have d:k<w.heap.size:=Nat.lt_of_lt_of_le b h.ext.size;exact (hb k d (λe=>by have:=h.low R g k e;omega)).trans (Below.block h.ext k b)
 ·intro S l;rcases getset S l with rfl|⟨j,c,hj⟩
  ·exact b2
  ·have s:=h.holds S (List.mem_of_getElem? hj);exact S.loc w w' (λk b=>hb k (S.lt w k s b) (other j S c hj k b)) s
 ·intro S l k b;rcases getset S l with rfl|⟨j,c,hj⟩
  ·rcases hf k b with n|n
   ·exact h.low R g k n
   ·exact Nat.le_trans h.ext.size n
  ·exact h.low S (List.mem_of_getElem? hj) k b
 ·rw [List.pairwise_iff_getElem];intro p q hp hq b5 k b d;have t:p<H.length:=by simpa using hp
  have u:q<H.length:=by simpa using hq
  have clash:∀j S,j≠i->H[j]? = some S->S.foot k->R'.foot k->False:=by
   intro j S c hj v e;rcases hf k e with n|n
   ·exact other j S c hj k v n
   ·have:=S.lt w k (h.holds S (List.mem_of_getElem? hj)) v;omega
  by_cases m:p=i
  ·subst m;have x:q≠p:=om
   rw [List.getElem_set_self] at b;rw [List.getElem_set_ne (Ne.symm x)] at d;exact clash q H[q] x (List.getElem?_eq_getElem u) d b
  ·rw [List.getElem_set_ne (Ne.symm m)] at b
   by_cases y:q=i
   ·subst y;rw [List.getElem_set_self] at d;exact clash p H[p] m (List.getElem?_eq_getElem t) b d
   ·rw [List.getElem_set_ne (Ne.symm y)] at d;exact List.pairwise_iff_getElem.1 h.apart p q t u b5 k b d
theorem St.cell {b:Nat} {t:TypeId} {cs:Array Value} {v:Value} (h:St w0 H w) (hi:H[i]? = some (blk b t cs)) (hj:cs[j]? = some v):w.cell? ⟨b,j,none⟩=some v:=by
 have:Blk w b t cs:=h.holds _ (List.mem_of_getElem? hi);rw [cell_of_row w b j cs t (0,0) this];exact hj
theorem St.blk {b:Nat} {t:TypeId} {cs:Array Value} (h:St w0 H w) (hi:H[i]? = some (blk b t cs)):Blk w b t cs:=h.holds _ (List.mem_of_getElem? hi)
end
def Sl (w:World) (sz:Nat) (v:Value) (n:Nat) (xs:List Value):Prop :=
 ∃ad cap,v=.slice ad n cap/\xs.length=n*sz/\n<=cap/\cap<=maxLen/\(0<n->∃a:Addr,ad=some a/\a.block<w.heap.size/\∀j u,xs[j]? = some u->w.cell? (a.add j)=some u)
section
variable {v:Value} {xs:List Value}
theorem Sl.later (h:Sl w sz v n xs) (b:Ext w w'):Sl w' sz v n xs:=by
 obtain ⟨ad,cap,c,d,e,f,g⟩:=h;refine ⟨ad,cap,c,d,e,f,λhn=>?_⟩;obtain ⟨a,i,k,l⟩:=g hn;exact ⟨a,i,Nat.lt_of_lt_of_le k b.size,λj u m=>b.cell (l j u m)⟩
theorem Sl.nil (w:World) (sz:Nat):Sl w sz (.slice none 0 0) 0 []:=⟨none,0,rfl,sm,Nat.le_refl _,by simp [maxLen],λh=>by omega⟩
theorem Sl.of_own {e:TypeId} (h:w.ownsRow 0 e sz v n xs):Sl w sz v n xs:=by
 rcases h.2 with ⟨rfl,rfl⟩|⟨g,cap,cur,rfl,_,d,b,c,_,_⟩
 ·exact ⟨none,0,rfl,h.1,Nat.le_refl _,by simp [maxLen],λh=>by omega⟩
 ·exact ⟨_,cap,rfl,h.1,b,c,λ_=>⟨⟨g,0,none⟩,rfl,(Array.getElem?_eq_some_iff.1 d).1,h.cells (g:=g) rfl⟩⟩
theorem Vt (p:Addr) (i j:Nat):(p.add i).add j=p.add (i+j):=by
 unfold Addr.add
 by_cases hi:i=0<;>by_cases hj:j=0<;>simp [hi,hj,Nat.add_assoc]
theorem Uq (p:Addr) (i:Nat):(p.add i).block=p.block:=by unfold Addr.add;split<;>rfl
def R6 (P:Program) (t sz:Nat):Bool :=
 match P.underlying t with
 | some (.slice e)=>match P.info? e with|some i=>Nat.beq i.size sz|none=>false
 | _=>false
theorem Vc (h:R6 P t sz=true):∃e i,P.underlying t=some (.slice e)/\P.info? e=some i/\i.size=sz:=by
 unfold R6 at h
 split at h
 ·rename_i e he
  cases hi:P.info? e with
  | none=>rw [hi] at h;simp at h
  | some i=>rw [hi] at h;exact ⟨e,i,he,hi,by simpa using h⟩
 ·simp at h
theorem Sl.at {i:Int} (h:Sl w sz v n xs) (d:R6 P t sz=true) (h0:0<=i) (hi:i<n) :
  ∃p:Addr,(∀w',(Instr.indexAt t v (.int .i64 i)).run P w'=.ok (.pointer (some p)) w')/\p.block<w.heap.size/\∀j u,xs[i.toNat*sz+j]? = some u->w.cell? (p.add j)=some u:=by
 obtain ⟨ad,cap,rfl,m,o,q,f⟩:=h;obtain ⟨a,rfl,g,k⟩:=f om;obtain ⟨e,inf,c,b,l⟩:=Vc d;refine ⟨a.add (i.toNat*sz),λw'=>?_,by rw [Uq];exact g,λj u c=>?_⟩
 ·simp [Instr.indexAt,asIntOf,run_underlying c,sizeOf,typeInfo,b,l,h0,hi]
 ·rw [Vt];exact k _ u c
theorem A4:Obs P T D []:=trivial
theorem Pj {o:Ob} {l:List Ob} (h:Ob.ok P T D o) (k:Obs P T D l):Obs P T D (o::l):=⟨h,k⟩
def Sw (P:Program) (t:Nat):Option Nat:=(pureSem P (isAgg t)).bind λb=>bif b then pureSem P (sizeOf t) else none
def Tc (P:Program) (t:Nat):Bool:=match pureSem P (isAgg t) with|some b=>!b|none=>false
theorem Zk {u:Value} (c:Tc P t=true) (h:w.cell? p=some u):(Instr.loadAt t (.pointer (some p))).run P w=.ok u w:=by
 unfold Tc at c
 cases d:pureSem P (isAgg t) with
 | none=>rw [d] at c;simp at c
 | some b =>
  rw [d] at c;have hb:b=false:=by simpa using c
  subst hb;have:=Bl _ _ d w;simp [Instr.loadAt,Instr.sureAddr,loadVar,this,run_load,h]
theorem Zl {cs:List Value} (c:Sw P t=some cs.length) (h:∀j u,cs[j]? = some u->w.cell? (p.add j)=some u):(Instr.loadAt t (.pointer (some p))).run P w=.ok (.agg cs.toArray) w:=by
 unfold Sw at c
 cases d:pureSem P (isAgg t) with
 | none=>rw [d] at c;simp at c
 | some b =>
  rw [d] at c
  cases b with
  | false=>simp at c
  | true =>
   simp at c;have e:=Bl _ _ d w;have f:=Bl _ _ c w;simp [Instr.loadAt,Instr.sureAddr,loadVar,e,f,run_loadCells_list (P:=P) w p cs h]
theorem ob1 {u:Value} (b:Tc P t=true) (h:∀w',D w'->w'.cell? p=some u):Ob.ok P T D (.run cs (Instr.loadAt t (.pointer (some p))) u) :=
 λ_ w' e=>Zk b (h w' e)
theorem obN {us:List Value} (b:Sw P t=some us.length) (h:∀w',D w'->∀j u,us[j]? = some u->w'.cell? (p.add j)=some u):Ob.ok P T D (.run cs (Instr.loadAt t (.pointer (some p))) (.agg us.toArray)) :=
 λ_ w' e=>Zl b (h w' e)
theorem St.at_ {w0:World} (h:St w0 H w) (e:w'=w):St w0 H w':=e▸h
theorem Blk.cells {b:Nat} {t:TypeId} {cs:Array Value} {off:Nat} {us:List Value} (h:Blk w b t cs) (d:(cs.toList.drop off).take us.length=us):∀j u,us[j]? = some u->w.cell? ((⟨b,off,none⟩:Addr).add j)=some u:=by
 intro j u c;have e:(⟨b,off,none⟩:Addr).add j=⟨b,off+j,none⟩:=by unfold Addr.add;split<;>simp_all
 rw [e,cell_of_row w b (off+j) cs t (0,0) h];rw [←d,List.getElem?_take] at c
 split at c
 ·rw [List.getElem?_drop] at c;simpa using c
 ·cases c
end
def effSem (ρ:Operand->Value) (op:Op) (ty:TypeId):Option (Sem Value) :=
 match op with
 | .box t x=>some (Instr.box t (ρ x))
 | .alloc t=>some (Instr.alloc t true (.tuple #[]))
 | .buildSlice t len parts=>some (Instr.buildSlice t len (parts.map λ(i,x)=>(i,ρ x)))
 | .makeSlice t l c=>some (Instr.makeSlice t (ρ l) (ρ c))
 | .call { callee:=.builtin .append,args,argTypes }=>some (Builtin.append_ argTypes ty (args.map ρ))
 | _=>none
theorem A66 {ρ:Operand->Value} {v:Value} (h:effSem ρ o.op o.type=some s) (hr:s.run P w=.ok v w') :
  plainOp o.op=true/\(execOp ρ o).run P w=.ok (.value v) w':=by
 unfold effSem at h;unfold execOp
 split at h<;>rename_i b<;>simp only [Option.some.injEq,reduceCtorEq] at h<;>(try subst h)<;>rw [b]<;>refine ⟨rfl,?_⟩<;>simp [hr,resolve,invoke,builtin]
def guardIs (ops:Array Oper) (M:List (Nat×Value)) (g:Nat×Bool):Option Bool :=
 match dstAt ops g.1 with
 | some d=>match lookM M d with
  | some (.bool b)=>some (b==g.2)
  | _=>none
 | none=>none
def plainAt (ops:Array Oper) (k:Nat) (M:List (Nat×Value)):Option Oper :=
 match ops[k]? with
 | some o=>match o.guard with
  | none=>bif o.op.operands.toList.all (okOperand (ofM M) [])&&plainOp o.op then some o else none
  | some g=>match guardIs ops M g with
   | some true=>bif o.op.operands.toList.all (okOperand (ofM M) [])&&plainOp o.op then some o else none
   | _=>none
 | none=>none
structure NextM (ops:Array Oper) (k:Nat) (M:List (Nat×Value)) (v:Value) (M':List (Nat×Value)):Prop where
 eq:M'.map (λp=>lookM (match dstAt ops k with|some d=>(d,v)::M|none=>M) p.1)=M'.map (λp=>some p.2)
section
variable {w0:World}
theorem Yo {g:Nat×Bool} {b:Bool} (h:guardIs ops M g=some b) (j:Fr N ds M a):(yielded ops a.tmps g.1==some g.2)=b:=by
 unfold guardIs at h
 split at h
 ·rename_i d hd
  split at h
  ·rename_i c k
   simp only [Option.some.injEq] at h;have e:=j.get k;have f:a.tmps[d]? = some (.bool c):=by
    rw [Array.getD_eq_getD_getElem?] at e
    cases i:a.tmps[d]? with
    | none=>rw [i] at e;simp [undef] at e
    | some v=>rw [i] at e;simp at e;rw [e]
   have:yielded ops a.tmps g.1=some c:=by
    unfold yielded;rw [show (ops[g.1]?).bind (·.dst)=some d from hd];simp [f]
   rw [this,←h];simp
  ·simp at h
 ·simp at h
theorem A2g (h:plainAt ops k M=some o):ops[k]? = some o/\(o.op.operands.toList.all (okOperand (ofM M) [])&&plainOp o.op)=true/\(o.guard=none\/∃g,o.guard=some g/\guardIs ops M g=some true):=by
 unfold plainAt at h
 cases ho:ops[k]? with
 | none=>rw [ho] at h;simp at h
 | some o' =>
  rw [ho] at h;simp only at h
  cases c:o'.guard with
  | some g =>
   rw [c] at h;simp only at h
   split at h
   ·rename_i d
    cases b:(o'.op.operands.toList.all (okOperand (ofM M) [])&&plainOp o'.op) with
    | false=>rw [b] at h;simp at h
    | true=>rw [b] at h;simp at h;subst h;exact ⟨rfl,b,.inr ⟨g,c,d⟩⟩
   ·simp at h
  | none =>
   rw [c] at h;simp only at h
   cases b:(o'.op.operands.toList.all (okOperand (ofM M) [])&&plainOp o'.op) with
   | false=>rw [b] at h;simp at h
   | true=>rw [b] at h;simp at h;subst h;exact ⟨rfl,b,.inl c⟩
theorem Mb (h:plainAt ops k M=some o) (l:Fr N ds M a):ops[k]? = some o/\Region.wanted o (yielded ops a.tmps)=true/\o.semAt r a.eval=execOp (rhoE (ofM M)) o:=by
 obtain ⟨i,d,f⟩:=A2g h;rw [Bool.and_eq_true,List.all_eq_true] at d;refine ⟨i,?_,?_⟩
 ·rcases f with f|⟨g,f,j⟩
  ·simp [Region.wanted,f]
  ·have:=Yo j l
   simpa [Region.wanted,f] using this
 ·rw [Qi d.2];refine execOp_congr o (λcs b m=>by have:=d.2;rw [m] at this;simp [plainOp] at this) ?_;intro x n;refine M8 (cur:=[]) (Yd M) (λc d=>by simp at d) rfl (d.1 x (by simpa using n)) ?_;intro t _ e he;obtain ⟨i,p⟩:=X3 he;have:=l.slot _ p;simp only at this;rw [this];simp [En.val,i,Br]
theorem K4 {v:Value} (ho:ops[k]? = some o) (f:Bg ops N=true) (g:Fr N ds M a) (h:NextM ops k M v M'):Fr N ds M' (a.put o.dst v):=by
 refine ⟨by rw [Uj];exact g.size,by rw [Rj];exact g.defers,λp j=>?_⟩;have b:=List.map_inj_left.1 h.eq p j;have hd:dstAt ops k=o.dst:=by simp [dstAt,ho]
 rw [hd] at b
 cases c:o.dst with
 | none=>rw [c] at b;exact g.get b
 | some d =>
  rw [c] at b;simp only [lookM] at b
  cases hb:Nat.beq d p.1 with
  | true =>
   rw [hb] at b;simp at b;rw [Nat.beq_eq] at hb;rw [←hb,←b];exact Wj (by rw [g.size];exact Re f ho c)
  | false =>
   rw [hb] at b;simp at b;have i:(some d:Option Tmp)≠some p.1:=λe=>by cases e;simp at hb
   rw [Rk i];exact g.get b
structure EffAt (ops:Array Oper) (k:Nat) (M:List (Nat×Value)) (s:Sem Value):Prop where
 eq:((plainAt ops k M).bind λo=>effSem (rhoE (ofM M)) o.op o.type)=some s
theorem Wy (w:World) (o:Obj):Ext w { w with heap:=w.heap.push o }:=(Below.refl _ w).alloc (Nat.le_refl _) o
theorem A3f (w:World) (t:TypeId) (cs:Array Value):(blk w.heap.size t cs).holds { w with heap:=w.heap.push (.cells cs t) }:=by
 show ({ w with heap:=w.heap.push (.cells cs t) }:World).heap[w.heap.size]? = _;simp
structure StoreAt (ops:Array Oper) (k:Nat) (M:List (Nat×Value)) (t:TypeId) (p v:Value):Prop where
 eq:((plainAt ops k M).bind λo=>match o.op with|.store t x y=>some (t,rhoE (ofM M) x,rhoE (ofM M) y)|_=>none)=some (t,p,v)
def Y1 (cs:Array Value) (off:Nat) (us:List Value):Array Value:=(cs.toList.take off++us++cs.toList.drop (off+us.length)).toArray
structure CallAt (P:Program) (ops:Array Oper) (k:Nat) (M:List (Nat×Value)) (f:FuncId) (args:Array Value):Prop where
 eq:((plainAt ops k M).bind λo=>match pureSem P (execOp (rhoE (ofM M)) o) with|some (.enter f args)=>some (f,args)|_=>none)=some (f,args)
end
end Go.Eng
namespace Go.Eng
open Go Go.RowKit
variable {a:Act} {w w':World} {k m n i j N t id sz:Nat} {o:Oper} {p:Addr} {P:Program} {r:Option Nat} {e:En} {R:Ending->World->Prop} {ops:Array Oper} {Q:Exit->Act->World->Prop} {K:Act->World->Prop} {T:World->World->Prop} {D:World->Prop} {d:Option Tmp} {E:List (Nat×En)} {S:Array Bool} {ds:List Deferred} {cs:List Cd} {s:Sem Value} {M M':List (Nat×Value)} {H:List Res}
theorem wrap64 {x:Int} (h:-9223372036854775808<=x/\x<=9223372036854775807):IntKind.i64.wrap x=x:=by
 have hb:IntKind.i64.bits=64:=rfl;have b:IntKind.i64.signed=true:=rfl;simp only [IntKind.wrap,hb,b]
 by_cases h0:0<=x
 ·have e:x%2 ^ 64=x:=Int.emod_eq_of_lt h0 om;rw [e];rw [if_neg];simp;omega
 ·have e:x%2 ^ 64=x+2 ^ 64:=by
   rw [←Int.add_emod_right];exact Int.emod_eq_of_lt om om
  rw [e];rw [if_pos]
  ·omega
  ·simp;omega
section
variable {t:TypeId} {x y:Int}
theorem C03 (h:-9223372036854775808<=x+y/\x+y<=9223372036854775807):Ob.ok P T D (.run cs (binOp .add t (.int .i64 x) (.int .i64 y)) (.int .i64 (x+y))) :=
 λ_ w' _=>by simp [binOp,Op.intArith,wrap64 h]
theorem C07 (h:-9223372036854775808<=x-y/\x-y<=9223372036854775807):Ob.ok P T D (.run cs (binOp .sub t (.int .i64 x) (.int .i64 y)) (.int .i64 (x-y))) :=
 λ_ w' _=>by simp [binOp,Op.intArith,wrap64 h]
theorem C06 (h:-9223372036854775808<=x*y/\x*y<=9223372036854775807):Ob.ok P T D (.run cs (binOp .mul t (.int .i64 x) (.int .i64 y)) (.int .i64 (x*y))) :=
 λ_ w' _=>by simp [binOp,Op.intArith,wrap64 h]
theorem B87 (h:y≠0):Ob.ok P T D (.run cs (binOp .rem t (.int .i64 x) (.int .i64 y)) (.int .i64 (x.tmod y))) :=
 λ_ w' _=>by simp [binOp,Op.intDiv,h]
theorem B85 (h:y≠0):Ob.ok P T D (.run cs (binOp .quo t (.int .i64 x) (.int .i64 y)) (.int .i64 (IntKind.i64.wrap (x.tdiv y)))) :=
 λ_ w' _=>by simp [binOp,Op.intDiv,h]
theorem obC {v:Value} (h:Br cs=true->Ob.ok P T D (.run cs s v)):Ob.ok P T D (.run cs s v):=λb=>h b b
theorem obW {op:BinOp} {k:IntKind} {v:Value} (h:pureSem P (binOp op t (.int k x) (.int k y))=some v):Ob.ok P T D (.run cs (binOp op t (.int k x) (.int k y)) v):=λ_ w' _=>Bl _ _ h w'
theorem Ap {v:Value} (h:pureSem P s=some v):Ob.ok P T D (.run cs s v):=λ_ w' _=>Bl _ _ h w'
theorem B81 {src dst:TypeId} {k:IntKind} (b:(P.underlying src).isSome=true) (hd:P.underlying dst=some (.int .i64)) (h:-9223372036854775808<=x/\x<=9223372036854775807) :
  Ob.ok P T D (.run cs (convert src dst (.int k x)) (.int .i64 x)):=λ_ w' _=>by
 cases c:P.underlying src with
 | none=>rw [c] at b;simp at b
 | some d =>
  have e1:=run_underlying c w';have e2:=run_underlying hd w';unfold convert;rw [Sem.run_bind,e1,Result.andThen_ok,Sem.run_bind,e2,Result.andThen_ok]
  cases d<;>simp [Conv.intToInt,wrap64 h]
end
theorem Vz {α:Type} {f:α->List Value} (b:∀x,(f x).length=sz):∀(l:List α) (i j:Nat) (x:α),l[i]? = some x->j<sz->(l.flatMap f)[i*sz+j]? = (f x)[j]?:=by
 intro l
 induction l with
 | nil=>intro i j x h _;simp at h
 | cons y l ih =>
  intro i j x h hj;rw [List.flatMap_cons]
  cases i with
  | zero =>
   simp at h;subst h;rw [Nat.zero_mul,Nat.zero_add,List.getElem?_append_left (by rw [b];exact hj)]
  | succ i =>
   have c:(f y).length<=(i+1)*sz+j:=by rw [b,Nat.add_mul];omega
   rw [List.getElem?_append_right c,b];have:(i+1)*sz+j-sz=i*sz+j:=by rw [Nat.add_mul];omega
   rw [this];exact ih i j x (by simpa using h) hj
theorem Kr {α:Type} {f:α->List Value} (b:∀x,(f x).length=sz) (l:List α):(l.flatMap f).length=l.length*sz:=by
 induction l with
 | nil=>simp
 | cons y l ih=>rw [List.flatMap_cons,List.length_append,b,ih,List.length_cons,Nat.add_mul];omega
def fI (x:Int):List Value:=[.int .i64 x]
theorem D8 (x:Int):(fI x).length=1:=rfl
def Rc (P:Program) (t len:Nat) (parts:Array (Nat×Value)):Option (TypeId×Array Value) :=
 match P.underlying t with
 | some (.slice e) =>
  match P.info? e with
  | some i =>
   match i.zero with
   | some z=>bif Nat.ble (len*i.size) 16777216 then (Instr.fill (λk=>some (k*i.size,i.size)) ((Array.range (len*i.size)).map (z.cells[·%z.cells.size]!)) parts.toList).map λcs=>(e,cs) else none
   | none=>none
  | none=>none
 | _=>none
section
variable {w0:World}
theorem A12 {len:Nat} {parts:Array (Nat×Value)} {e:TypeId} {cs:Array Value} (h:Rc P t len parts=some (e,cs)) :
  (Instr.buildSlice t len parts).run P w=.ok (.slice (some ⟨w.heap.size,0,none⟩) len len) { w with heap:=w.heap.push (.cells cs e) }:=by
 unfold Rc at h
 cases f:P.underlying t with
 | none=>rw [f] at h;simp at h
 | some d =>
  rw [f] at h
  cases d<;>simp only at h<;>try (simp at h;done)
  rename_i e'
  cases hi:P.info? e' with
  | none=>rw [hi] at h;simp at h
  | some i =>
   rw [hi] at h;simp only at h
   cases g:i.zero with
   | none=>rw [g] at h;simp at h
   | some z =>
    rw [g] at h;simp only at h
    cases hb:Nat.ble (len*i.size) 16777216 with
    | false=>rw [hb] at h;simp at h
    | true =>
     rw [hb] at h;simp only [cond_true,Option.map_eq_some_iff] at h;obtain ⟨cs',b,he⟩:=h
     cases he
     have k:=Nat.le_of_ble_eq_true hb;have j:¬(len*i.size>2 ^ 24):=by
      have:(2:Nat) ^ 24=16777216:=by decide
      omega
     unfold Instr.buildSlice;rw [Sem.run_bind,run_underlying f w,Result.andThen_ok]
     by_cases h0:len*i.size=0
     ·have c:Array.range 0=#[]:=rfl;rw [h0,c] at b;simp only [Array.map_empty] at b;simp [sizeOf,typeInfo,hi,h0,newRow,c,b]
     ·simp [sizeOf,typeInfo,zeroValue,hi,g,j,h0,newRow,b]
theorem A77 {b:Nat} {e:TypeId} {cs:Array Value} (h:Blk w b e cs) (c:cs.size=n*sz) (hn:n<=maxLen):w.ownsRow 0 e sz (.slice (some ⟨b,0,none⟩) n n) n cs.toList :=
 ⟨by simpa using c,.inr ⟨b,n,cs,rfl,Nat.zero_le _,h,Nat.le_refl _,hn,c,List.take_of_length_le (by rw [Array.length_toList,c];exact Nat.le_refl _)⟩⟩
theorem St.conv {R R':Res} (h:St w0 (R::H) w) (e:R'.holds w) (d:∀b,R'.foot b->R.foot b):St w0 (R'::H) w :=
 ⟨h.ext,λS c=>by
  rcases List.mem_cons.1 c with rfl|c
  ·exact e
  ·exact h.holds S (List.mem_cons_of_mem _ c),λS c b hb=>by
  rcases List.mem_cons.1 c with rfl|c
  ·exact h.low R (List.mem_cons_self ..) b (d b hb)
  ·exact h.low S (List.mem_cons_of_mem _ c) b hb,List.pairwise_cons.2 ⟨λS c b hb=>(List.pairwise_cons.1 h.apart).1 S c b (d b hb),(List.pairwise_cons.1 h.apart).2⟩⟩
def Q4 (P:Program) (t e size bytes:Nat):Bool :=
 match P.underlying t with
 | some (.slice e')=>Nat.beq e e'&&(match P.info? e with
  | some i=>Nat.beq i.size size&&Nat.beq i.bytes bytes&&Nat.blt 0 size&&(match i.zero with|some z=>Nat.beq z.cells.size size|none=>false)
  | none=>false)
 | _=>false
theorem T4 {e size bytes:Nat} (h:Q4 P t e size bytes=true):∃i z,P.underlying t=some (.slice e)/\P.info? e=some i/\i.zero=some z/\i.size=size/\i.bytes=bytes/\z.cells.size=size/\0<size:=by
 unfold Q4 at h
 split at h
 ·rename_i e' d
  rw [Bool.and_eq_true,Nat.beq_eq] at h;obtain ⟨rfl,h⟩:=h
  cases hi:P.info? e with
  | none=>rw [hi] at h;simp at h
  | some i =>
   rw [hi] at h;simp only [Bool.and_eq_true,Nat.beq_eq,Nat.blt_eq] at h;obtain ⟨⟨⟨f,g⟩,j⟩,b⟩:=h
   cases c:i.zero with
   | none=>rw [c] at b;simp at b
   | some z=>rw [c] at b;exact ⟨i,z,d,hi▸rfl,c,f,g,by simpa using b,j⟩
 ·simp at h
theorem B51 {ty e size bytes:Nat} (b7:Q4 P t e size bytes=true) {v src:Value} {xs news:List Value} (b:w.ownsRow 0 e size v n xs) (x:Sl w size src m news) (h1:∀u∈news,u.oneCell'=true)
  (hb:(n+m)*bytes<=140737488355328) (y:n+m<=maxLen) :
  ∃ad cap w',(Builtin.append_ #[t,t] ty #[v,src]).run P w=.ok (.slice ad (n+m) cap) w'/\w'.ownsRow 0 e size (.slice ad (n+m) cap) (n+m) (xs++news)/\w.grownBy w' v.ownBlock /\
   (∀k,(Value.slice ad (n+m) cap).ownBlock=some k->v.ownBlock=some k\/w.heap.size<=k):=by
 obtain ⟨i,z,ht,hi,hz,rfl,rfl,b8,c3⟩:=T4 b7;obtain ⟨sad,scap,rfl,r,c4,_,s⟩:=x;have b6:n+m<=9223372036854775807:=by simp only [maxLen] at y;omega
 by_cases hm:m=0
 ·subst hm;have hn:news=[]:=List.eq_nil_of_length_eq_zero (by simpa using r);subst hn;have b1:(Builtin.firstCells i.size 0 (.slice sad 0 scap)).run P w=.ok #[] w:=by cases sad<;>simp [Builtin.firstCells,loadCells,loadCellsFrom]
  rcases b.2 with ⟨rfl,rfl⟩|⟨g,cap,cur,rfl,b2,hg,b3,q,b4,p⟩
  ·refine ⟨none,0,w,?_,by simpa using b,⟨rfl,rfl,rfl,Nat.le_refl _,λ_ _ _=>rfl⟩,λk l=>.inl l⟩;simp [Builtin.append_,run_underlying ht,sizeOf,typeInfo,hi,Builtin.lenOf,b1]
  ·refine ⟨some ⟨g,0,none⟩,cap,w,?_,by simpa using b,⟨rfl,rfl,rfl,Nat.le_refl _,λ_ _ _=>rfl⟩,λk l=>.inl l⟩;simp [Builtin.append_,run_underlying ht,sizeOf,typeInfo,hi,Builtin.lenOf,b3,b1,storeCells]
 ·obtain ⟨sa,rfl,_,c⟩:=s om;have f:(xs++news).length=(n+m)*i.size:=by rw [List.length_append,b.1,r,Nat.add_mul]
  have grown:∀(old:Nat),old<n+m ->
    (w.drew.alloc (.cells (xs.toArray++news.toArray++Builtin.zeroCells z.cells (grownCap w (n+m) old e-(n+m))) e)).ownsRow 0 e i.size
     (.slice (some ⟨w.heap.size,0,none⟩) (n+m) (grownCap w (n+m) old e)) (n+m) (xs++news) /\
    ∀row,w.grownBy (w.drew.alloc (.cells (xs.toArray++news.toArray++Builtin.zeroCells z.cells (grownCap w (n+m) old e-(n+m))) e)) row:=by
   intro old ho;have c0:=grownCap_ge w (n+m) old e;have q:grownCap w (n+m) old e<=maxLen:=grownCap_le_maxLen w (n+m) old e y;refine ⟨⟨f,.inr ⟨w.heap.size,_,_,rfl,Nat.zero_le _,heap_alloc_new w.drew _,c0,q,?_,?_⟩⟩,λrow=>⟨rfl,rfl,rfl,sm,λk l _=>heap_alloc_old w.drew _ k l⟩⟩
   ·simp only [Array.size_append,List.size_toArray,size_zeroCells,b8,b.1,r,←Nat.add_mul]
    congr 1
    omega
   ·simp only [Array.toList_append,List.append_assoc];rw [←List.append_assoc,←f];exact List.take_left
  rcases b.2 with ⟨rfl,rfl⟩|⟨g,cap,cur,rfl,b2,hg,b3,q,b4,p⟩
  ·have hx:xs=[]:=List.eq_nil_of_length_eq_zero (by simpa using b.1);subst hx;have hr:=run_append_nil (P:=P) w t ty e i z ht hi hz sa m scap news r c om om (by simp only [Nat.zero_add] at hb;omega);have o:=grown 0 om;simp only [Nat.zero_add,List.nil_append,Array.empty_append] at o ⊢;exact ⟨_,_,_,hr,o.1,o.2 _,λk l=>.inr (by simp [Value.ownBlock] at l;omega)⟩
  ·by_cases d:n+m<=cap
   ·have b5:n*i.size+news.length<=cur.size:=by rw [r,b4,←Nat.add_mul];exact Nat.mul_le_mul_right _ d
    have hr:=run_append_room (P:=P) (ty:=ty) w t e i ht hi g n cap cur hg sa m scap news r c h1 d b5;refine ⟨_,_,_,hr,⟨f,.inr ⟨g,cap,_,rfl,b2,setRow_heap w g cur _ e _ hg,d,q,?_,?_⟩⟩,⟨rfl,rfl,rfl,sm,λk _ l=>setRow_other w g k _ (λe=>l (by simp [Value.ownBlock,e]))⟩,λk l=>.inl l⟩
    ·simp only [List.size_toArray,List.length_append,List.length_take,List.length_drop,Array.length_toList];omega
    ·rw [p,←f];exact List.take_left
   ·have holds:∀j u,xs[j]? = some u->w.cell? ((⟨g,0,none⟩:Addr).add j)=some u:=b.cells (g:=g) rfl;have hr:=run_append_grow (P:=P) w t ty e i z ht hi hz ⟨g,0,none⟩ n cap xs b.1 holds sa m scap news r c om om (growslice_fits om hb);have o:=grown cap om;exact ⟨_,_,_,hr,o.1,o.2 _,λk l=>.inr (by simp [Value.ownBlock] at l;omega)⟩
end
end Go.Eng
