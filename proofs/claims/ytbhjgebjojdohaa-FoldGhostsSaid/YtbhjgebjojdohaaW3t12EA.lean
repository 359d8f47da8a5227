import Derived.OrdersIn
import Derived.RangeFuncIn
import Derived.Below
import Derived.Laws.AppendOwn
import Derived.KernelRfl
import Derived.Laws.OwnMore
import Derived.Laws.MakeOwn
import Derived.Defers
set_option linter.unusedVariables false
set_option linter.unusedSimpArgs false
set_option linter.unusedSectionVars false
namespace Go.Eng
theorem kr {α : Sort _} {a b : α} (h : a = b := by kernel_rfl) : a = b := h
open Go Go.RowKit
abbrev Ext (w w':World):Prop:=Below w.heap.size w w'
theorem Ext.refl (w:World):Ext w w:=Below.refl _ _
theorem Ext.trans {a b c:World} (h:Ext a b) (k:Ext b c):Ext a c:=Below.trans h (Below.mono k h.size)
theorem Ext.block {w w':World} (h:Ext w w') {k:Nat} {o:Obj} (hk:w.heap[k]? = some o):w'.heap[k]? = some o :=
 (Below.block h k (Array.getElem?_eq_some_iff.1 hk).1).trans hk
def F0 (r:Option Nat):Fence:={ Fence.wide with round:=r }
theorem Kk (P:Program) (r:Option Nat) (m:Machine):m.fenced P (F0 r):=by
 intro g _;refine ⟨fun h=>?_,Or.inl trivial,fun _ _=>trivial,fun _ h=>?_⟩
 ·simp [F0,Fence.wide] at h
 ·simp [F0,Fence.wide] at h
theorem Z9 (r:Option Nat) (n:Nat):(F0 r).room n:=fun _ h=>by simp [F0,Fence.wide] at h
theorem So {P:Program} {r:Option Nat} {m m':Machine}:StepsIn (Machine.fenced P (F0 r)) P m m'↔Steps P m m' :=
 ⟨StepsIn.steps,fun h=>(StepsIn.of_steps h).mono fun m _=>Kk P r m⟩
theorem Re {P:Program} {r:Option Nat} {m m':Machine} {e:Ending}:ComesIn (Machine.fenced P (F0 r)) P m m' e↔Comes P m m' e:=by
 cases e with
 | returned v=>exact So
 | panicked chain=>exact So
 | outgrown=>exact Iff.rfl
theorem E3 {r:Option Nat} {n:Nat} {P:Program} {f:FuncId} {args:Array Value} {w:World} {R:Ending→World→Prop} :
  CallsIn (F0 r) n P f args w R↔Calls P f args w R :=
 ⟨fun h cs=>let ⟨e,w',fr,q,s,x⟩:=h.2 cs (Z9 _ _);⟨e,w',fr,q,Re.1 s,x⟩,
  fun h=>⟨trivial,fun cs _=>let ⟨e,w',fr,q,s,x⟩:=h cs;⟨e,w',fr,q,Re.2 s,x⟩⟩⟩
abbrev WP (P:Program) (r:Option Nat) (c:Code) (Q:Exit→Act→World→Prop) (a:Act) (w:World):Prop:=c.wpIn (F0 r) 0 P Q a w
def WI (P:Program) (r:Option Nat) (ops:Array Oper) (Q:Exit→Act→World→Prop) (k:Nat) (a:Act) (w:World):Prop :=
 wpOpsIn (F0 r) 0 P ops Q (List.range' k (ops.size-k)) a w
def OpR (P:Program) (r:Option Nat) (o:Oper) (a:Act) (w:World) (R:Value→World→Prop):Prop :=
 match (o.semAt r a.eval).run P w with
 | .ok (.value v) w'=>R v w'
 | .ok .skip w'=>R undef w'
 | .ok (.enter f args) w'=>Calls P f args w' (fun e w''=>∃v,e=.returned v∧R v w'')
 | _=>False
def OpG (P:Program) (r:Option Nat) (ops:Array Oper) (o:Oper) (a:Act) (w:World) (R:Value→World→Prop):Prop :=
 if Region.wanted o (yielded ops a.tmps) then OpR P r o a w R else R undef w
section
variable {P:Program} {r:Option Nat} {ops:Array Oper} {Q:Exit→Act→World→Prop} {a:Act} {w:World}
theorem OpR.wpIn {o:Oper} {R:Value→World→Prop} {K:Act→World→Prop} (h:OpR P r o a w R) (hk:∀v w',R v w'→K (a.put o.dst v) w') :
  o.wpIn (F0 r) 0 P a w K Q:=by
 refine ⟨fun _ _=>trivial,?_⟩;unfold OpR at h
 change o.uponIn (F0 r) 0 P a K Q ((o.semAt r a.eval).run P w)
 generalize (o.semAt r a.eval).run P w=res at *
 cases res with
 | ok x w' =>
  cases x<;>simp only [Oper.uponIn] at h ⊢<;>first|exact hk _ _ h|exact h.elim|skip
  case enter f args =>
   refine ⟨fun h=>by simp [F0,Fence.wide] at h,E3.2 ?_⟩;refine Calls.mono h ?_;rintro e w'' ⟨v,rfl,hr⟩;exact hk _ _ hr
 | halt x w'=>simp only at h
theorem OpG.wpOpIn {o:Oper} {i:Nat} {R:Value→World→Prop} {K:Act→World→Prop} (ho:ops[i]? = some o) (h:OpG P r ops o a w R)
  (hk:∀v w',R v w'→K (a.put o.dst v) w'):wpOpIn (F0 r) 0 P ops Q i K a w:=by
 unfold Go.wpOpIn OpG at *;rw [ho];simp only
 split
 ·rename_i hw
  rw [if_pos hw] at h;exact OpR.wpIn h hk
 ·rename_i hw
  rw [if_neg hw] at h;exact ⟨fun _ _=>trivial,hk _ _ h⟩
theorem WI.nil (h:Q .normal a w):WI P r ops Q ops.size a w:=by
 simpa [WI,wpOpsIn] using h
theorem WI.cons {i:Nat} {o:Oper} {R:Value→World→Prop} (ho:ops[i]? = some o) (h:OpG P r ops o a w R)
  (hk:∀v w',R v w'→WI P r ops Q (i+1) (a.put o.dst v) w'):WI P r ops Q i a w:=by
 have hi:i<ops.size:=(Array.getElem?_eq_some_iff.1 ho).1;have e:List.range' i (ops.size-i)=i::List.range' (i+1) (ops.size-(i+1)):=by
  rw [show ops.size-i=(ops.size-(i+1))+1 by omega,List.range'_succ]
 unfold WI;rw [e,wpOpsIn_cons];exact h.wpOpIn ho hk
theorem WI.region {id:Nat} (h:WI P r ops Q 0 a w):WP P r (.region id ops false) Q a w :=
 wpIn_region (by rw [List.range_eq_range'];exact h)
theorem OpR.mono {o:Oper} {R R':Value→World→Prop} (h:OpR P r o a w R) (hr:∀v w',R v w'→R' v w'):OpR P r o a w R':=by
 unfold OpR at *;generalize (o.semAt r a.eval).run P w=res at *
 cases res with
 | ok x w' =>
  cases x<;>simp only at h ⊢<;>first|exact hr _ _ h|exact h.elim|skip
  case enter f args=>exact Calls.mono h (fun e w'' ⟨v,e1,e2⟩=>⟨v,e1,hr _ _ e2⟩)
 | halt x w'=>simp only at h
theorem OpG.mono {o:Oper} {R R':Value→World→Prop} (h:OpG P r ops o a w R) (hr:∀v w',R v w'→R' v w'):OpG P r ops o a w R':=by
 unfold OpG at *
 split
 ·rename_i hw;rw [if_pos hw] at h;exact h.mono hr
 ·rename_i hw;rw [if_neg hw] at h;exact hr _ _ h
end
inductive Anc (ops:Array Oper):Nat→Nat→Prop
 | one {i j:Nat} {o:Oper} {e:Edge} (ho:ops[i]? = some o) (he:e∈o.after) (hb:Region.binds .any e=true) (hj:e.on=j):Anc ops j i
 | trans {i j k:Nat} (h:Anc ops j i) (h':Anc ops k j):Anc ops k i
def Tn (acc:List Nat) (o:Oper):Nat :=
 o.after.toList.foldl (fun s e=>if Region.binds .any e&&Nat.blt e.on acc.length then s ||| (2 ^ e.on ||| acc.getD e.on 0) else s) 0
def Ht:List Oper→List Nat→List Nat
 | [],acc=>acc
 | o::l,acc=>Ht l (acc++[Tn acc o])
theorem Rv {ops:Array Oper} {acc:List Nat} {o:Oper} (ho:ops[acc.length]? = some o)
  (hacc:∀k m,acc[k]? = some m→∀i,m.testBit i=true→Anc ops i k):∀i,(Tn acc o).testBit i=true→Anc ops i acc.length:=by
 have key:∀(l:List Edge) (s:Nat),(∀e∈l,e∈o.after)→(∀i,s.testBit i=true→Anc ops i acc.length) →
   ∀i,(l.foldl (fun s e=>if Region.binds .any e&&Nat.blt e.on acc.length then s ||| (2 ^ e.on ||| acc.getD e.on 0) else s) s).testBit i=true→Anc ops i acc.length:=by
  intro l
  induction l with
  | nil=>intro s _ hs i hi;exact hs i hi
  | cons e l ih =>
   intro s hl hs;simp only [List.foldl_cons];refine ih _ (fun e' he'=>hl e' (List.mem_cons_of_mem _ he')) ?_;intro i hi
   split at hi
   ·rename_i hc
    rw [Bool.and_eq_true] at hc;rw [Nat.testBit_or,Nat.testBit_or,Bool.or_eq_true,Bool.or_eq_true] at hi;rcases hi with hi|hi|hi
    ·exact hs i hi
    ·rw [Nat.testBit_two_pow] at hi;have:e.on=i:=by simpa using hi
     exact .one ho (hl e (List.mem_cons_self ..)) hc.1 this
    ·have hlt:e.on<acc.length:=by have:=hc.2;simpa [Nat.blt_eq] using this
     have hg:acc[e.on]? = some (acc.getD e.on 0):=by rw [List.getD_eq_getElem?_getD,List.getElem?_eq_getElem hlt];rfl
     exact .trans (.one ho (hl e (List.mem_cons_self ..)) hc.1 rfl) (hacc _ _ hg i hi)
   ·exact hs i hi
 exact key o.after.toList 0 (fun e he=>by simpa using he) (fun i hi=>by simp at hi)
theorem To {ops:Array Oper}:∀(l:List Oper) (acc:List Nat),(∀j,l[j]? = ops[acc.length+j]?) →
  (∀k m,acc[k]? = some m→∀i,m.testBit i=true→Anc ops i k)→∀k m,(Ht l acc)[k]? = some m→∀i,m.testBit i=true→Anc ops i k:=by
 intro l
 induction l with
 | nil=>intro acc _ h;exact h
 | cons o l ih =>
  intro acc hl h;have h0:ops[acc.length]? = some o:=by simpa using (hl 0).symm
  refine ih (acc++[Tn acc o]) (fun j=>?_) ?_
  ·have:=hl (j+1);simp only [List.getElem?_cons_succ] at this;rw [this,List.length_append];simp only [List.length_cons,List.length_nil];congr 1;omega
  ·intro k m hk i hi
   by_cases hlt:k<acc.length
   ·rw [List.getElem?_append_left hlt] at hk;exact h k m hk i hi
   ·rw [List.getElem?_append_right (by omega)] at hk;have hk0:k=acc.length:=by
     by_cases e:k-acc.length=0
     ·omega
     ·obtain ⟨q,hq⟩:∃q,k-acc.length=q+1:=⟨k-acc.length-1,by omega⟩;rw [hq] at hk;simp at hk
    subst hk0;simp at hk;subst hk;exact Rv h0 h i hi
def Jw (ops:Array Oper) (ms:List Nat):Nat→List Oper→Bool
 | _,[]=>true
 | j,y::l=>(ops.toList.zipIdx.all fun p=>!Nat.blt p.2 j||p.1.apart ops y||(ms.getD j 0).testBit p.2)&&Jw ops ms (j+1) l
def F9 (ops:Array Oper) (m:Nat):Bool:=Jw ops (Ht ops.toList []) 0 (ops.toList.take m)
def E9 (ops:Array Oper) (m:Nat):Bool :=
 (List.range ops.size).all fun i=>Nat.blt i m||(List.range i).all fun j=>((Ht ops.toList []).getD i 0).testBit j
def Cf (ops:Array Oper):Bool :=
 ops.toList.zipIdx.all fun p=>p.1.after.all fun e=>!Region.binds .any e||Nat.blt e.on p.2
theorem Fb {ops:Array Oper} {i j:Nat} (h:((Ht ops.toList []).getD j 0).testBit i=true):Anc ops i j:=by
 rw [List.getD_eq_getElem?_getD] at h
 cases hk:(Ht ops.toList [])[j]? with
 | none=>rw [hk] at h;simp at h
 | some m =>
  rw [hk] at h;exact To ops.toList [] (fun j=>by simp) (fun k m hm=>by simp at hm) j m hk i h
theorem P2 {ops:Array Oper} {ms:List Nat}:∀(l:List Oper) (j0:Nat),Jw ops ms j0 l=true →
  ∀(i j:Nat) (x y:Oper),i<j0+j→ops[i]? = some x→l[j]? = some y→x.apart ops y=true∨(ms.getD (j0+j) 0).testBit i=true:=by
 intro l
 induction l with
 | nil=>intro j0 _ i j x y _ _ hy;simp at hy
 | cons z l ih =>
  intro j0 h i j x y hij hx hy;rw [Jw,Bool.and_eq_true] at h
  cases j with
  | zero =>
   simp at hy;subst hy;have hz:=h.1;rw [List.all_eq_true] at hz;have hmem:(x,i)∈ops.toList.zipIdx:=by
    rw [List.mem_zipIdx_iff_getElem?];simpa using hx
   have:=hz _ hmem;simp only [Bool.or_eq_true,Bool.not_eq_true'] at this;rcases this with (h1|h1)|h1
   ·have:¬i<j0:=by intro hlt;rw [←Nat.blt_eq,h1] at hlt;cases hlt
    omega
   ·exact .inl h1
   ·exact .inr h1
  | succ j =>
   have:=ih (j0+1) h.2 i j x y (by omega) hx (by simpa using hy)
   rwa [show j0+1+j=j0+(j+1) by omega] at this
theorem G6 {ops:Array Oper} {m:Nat} (h:F9 ops m=true) {i j:Nat} {x y:Oper} (hij:i<j) (hj:j<m) (hx:ops[i]? = some x) (hy:ops[j]? = some y) :
  x.apart ops y=true∨Anc ops i j:=by
 have:=P2 _ 0 h i j x y (by omega) hx (by rw [List.getElem?_take,if_pos hj];simpa using hy);rw [Nat.zero_add] at this;exact this.imp id Fb
theorem H2 {ops:Array Oper} {m:Nat} (h:E9 ops m=true) {i j:Nat} (hi:m≤i) (hn:i<ops.size) (hj:j<i):Anc ops j i:=by
 unfold E9 at h;rw [List.all_eq_true] at h;have:=h i (List.mem_range.2 hn);rw [Bool.or_eq_true] at this;rcases this with h1|h1
 ·rw [Nat.blt_eq] at h1;omega
 ·rw [List.all_eq_true] at h1;exact Fb (h1 j (List.mem_range.2 hj))
theorem Q6 {ops:Array Oper} (h:Cf ops=true) {i:Nat} {o:Oper} {e:Edge} (ho:ops[i]? = some o) (he:e∈o.after) (hb:Region.binds .any e=true):e.on<i:=by
 unfold Cf at h;rw [List.all_eq_true] at h;have hmem:(o,i)∈ops.toList.zipIdx:=by rw [List.mem_zipIdx_iff_getElem?];simpa using ho
 have:=h _ hmem;rw [Array.all_eq_true'] at this;have:=this e he;simp only [hb,Bool.not_true,Bool.false_or] at this;exact Nat.blt_eq.mp this
end Go.Eng
namespace Go.Eng
open Go Go.RowKit
abbrev Asn:=Value→World→Prop
def lookA:List (Nat×Asn)→Nat→Option Asn
 | [],_=>none
 | (k,φ)::E,t=>if k=t then some φ else lookA E t
def Na (E:List (Nat×Asn)) (d:Option Tmp) (φ:Asn):List (Nat×Asn) :=
 match d with
 | some d=>(d,φ)::E
 | none=>E
def dstAt (ops:Array Oper) (i:Nat):Option Tmp:=(ops[i]?).bind (·.dst)
def EnvOk (E:List (Nat×Asn)) (a:Act) (w:World):Prop:=∀t ψ,lookA E t=some ψ→ψ (a.tmps.getD t undef) w
def K8 (T:World→World→Prop) (φ:Asn):Prop:=∀v w w',φ v w→T w w'→φ v w'
structure Trans (T:World→World→Prop):Prop where
 refl:∀w,T w w
 trans:∀{a b c},T a b→T b c→T a c
theorem L4:Trans Ext:=⟨Ext.refl,Ext.trans⟩
theorem Nu:Trans (fun a b:World=>b=a):=⟨fun _=>rfl,fun h k=>k.trans h⟩
def R0 (P:Program) (r:Option Nat) (ops:Array Oper) (T:World→World→Prop) (D:World→Prop) (E:List (Nat×Asn)) (o:Oper) (φ:Asn):Prop :=
 ∀a w,D w→(∀t∈o.looksAt ops,∀ψ,lookA E t=some ψ→ψ (a.tmps.getD t undef) w)→OpG P r ops o a w (fun v w'=>T w w'∧φ v w')
def Seg (P:Program) (r:Option Nat) (ops:Array Oper) (T:World→World→Prop) (D:World→Prop):List Asn→Nat→List (Nat×Asn)→Prop
 | [],_,_=>True
 | φ::Φ,i,E=>(match ops[i]? with
   | none=>False
   | some o=>R0 P r ops T D E o φ∧(∀d,o.dst=some d→True))∧Seg P r ops T D Φ (i+1) (Na E (dstAt ops i) φ)
def Ll (ops:Array Oper):List Asn→Nat→List (Nat×Asn)→List (Nat×Asn)
 | [],_,E=>E
 | φ::Φ,i,E=>Ll ops Φ (i+1) (Na E (dstAt ops i) φ)
def Al (ops:Array Oper) (N:Nat):Bool:=ops.all fun o=>match o.dst with|some d=>Nat.blt d N|none=>true
section
variable {P:Program} {r:Option Nat} {ops:Array Oper} {T:World→World→Prop} {D:World→Prop} {Q:Exit→Act→World→Prop} {N:Nat}
theorem D3 (h:Al ops N=true) {i:Nat} {o:Oper} {d:Tmp} (ho:ops[i]? = some o) (hd:o.dst=some d):d<N:=by
 unfold Al at h;rw [Array.all_eq_true'] at h;have hm:o∈ops:=Array.mem_of_getElem? ho;have:=h o hm;rw [hd] at this;exact Nat.blt_eq.mp this
theorem Ex (a:Act) (d:Option Tmp) (v:Value):(a.put d v).tmps.size=a.tmps.size:=by cases d<;>simp [Act.put]
theorem Dq (a:Act) (d:Option Tmp) (v:Value):(a.put d v).defers=a.defers:=by cases d<;>rfl
theorem Fq {a:Act} {d:Tmp} {v:Value} (h:d<a.tmps.size):(a.put (some d) v).tmps.getD d undef=v:=by
 simp [Act.put,h]
theorem Du {a:Act} {d:Option Tmp} {t:Tmp} {v:Value} (h:d≠some t):(a.put d v).tmps.getD t undef=a.tmps.getD t undef:=by
 cases d with
 | none=>rfl
 | some d =>
  have:d≠t:=fun e=>h (by rw [e]);simp [Act.put,Array.getElem?_setIfInBounds_ne this]
theorem J0 {E:List (Nat×Asn)} {d:Option Tmp} {φ ψ:Asn} {t:Nat} (h:lookA (Na E d φ) t=some ψ):(d=some t∧ψ=φ)∨(d≠some t∧lookA E t=some ψ):=by
 cases d with
 | none=>exact .inr ⟨by simp,h⟩
 | some d =>
  simp only [Na,lookA] at h
  split at h
  ·rename_i e;cases h;exact .inl ⟨by rw [e],rfl⟩
  ·rename_i e;exact .inr ⟨by simpa using e,h⟩
theorem EnvOk.push {E:List (Nat×Asn)} {a:Act} {w w':World} {d:Option Tmp} {φ:Asn} {v:Value} (h:EnvOk E a w) (hst:∀t ψ,lookA E t=some ψ→K8 T ψ) (hT:T w w')
  (hd:∀t,d=some t→t<a.tmps.size) (hφ:φ v w'):EnvOk (Na E d φ) (a.put d v) w':=by
 intro t ψ ht;rcases J0 ht with ⟨e,rfl⟩|⟨e,hl⟩
 ·subst e;rw [Fq (hd t rfl)];exact hφ
 ·rw [Du e];exact hst t ψ hl _ _ _ (h t ψ hl) hT
theorem Wc {E:List (Nat×Asn)} {d:Option Tmp} {φ:Asn} (h:∀t ψ,lookA E t=some ψ→K8 T ψ) (hφ:K8 T φ):∀t ψ,lookA (Na E d φ) t=some ψ→K8 T ψ:=by
 intro t ψ ht;rcases J0 ht with ⟨_,rfl⟩|⟨_,hl⟩
 ·exact hφ
 ·exact h t ψ hl
theorem Uw (hT:Trans T) (hD:∀w w',D w→T w w'→D w') (hdst:Al ops N=true):∀(Φ:List Asn) (k:Nat) (E:List (Nat×Asn)) (a:Act) (w:World),
  Seg P r ops T D Φ k E→(∀φ∈Φ,K8 T φ)→(∀t ψ,lookA E t=some ψ→K8 T ψ)→D w→a.tmps.size=N→EnvOk E a w →
  (∀a' w',T w w'→a'.tmps.size=N→a'.defers=a.defers→EnvOk (Ll ops Φ k E) a' w'→WI P r ops Q (k+Φ.length) a' w')→WI P r ops Q k a w:=by
 intro Φ
 induction Φ with
 | nil=>intro k E a w _ _ _ _ hN hE hK;exact hK a w (hT.refl w) hN rfl hE
 | cons φ Φ ih =>
  intro k E a w hS hst hstE hw hN hE hK;obtain ⟨h1,h2⟩:=hS
  cases ho:ops[k]? with
  | none=>rw [ho] at h1;exact h1.elim
  | some o =>
   rw [ho] at h1;have hd:dstAt ops k=o.dst:=by simp [dstAt,ho]
   refine WI.cons ho (h1.1 a w hw (fun t _ ψ hl=>hE t ψ hl)) ?_;rintro v w' ⟨hww,hφ⟩;have hlt:∀t,o.dst=some t→t<a.tmps.size:=fun t ht=>hN▸D3 hdst ho ht;refine ih (k+1) _ _ w' h2 (fun ψ hψ=>hst ψ (List.mem_cons_of_mem _ hψ)) (Wc hstE (hst φ (List.mem_cons_self ..))) (hD _ _ hw hww) (by rw [Ex];exact hN) ?_ ?_
   ·rw [hd];exact hE.push hstE hww hlt hφ
   ·intro a' w'' hw'' hN' hds hE';have:=hK a' w'' (hT.trans hww hw'') hN' (hds.trans (Dq _ _ _)) hE'
    rwa [List.length_cons,show k+(Φ.length+1)=k+1+Φ.length by omega] at this
theorem Zb:∀(Φ:List Asn) (k:Nat) (E:List (Nat×Asn)),Seg P r ops T D Φ k E→∀(j:Nat) (φ:Asn),Φ[j]? = some φ →
  ∃o,ops[k+j]? = some o∧R0 P r ops T D (Ll ops (Φ.take j) k E) o φ:=by
 intro Φ
 induction Φ with
 | nil=>intro k E _ j φ h;simp at h
 | cons φ0 Φ ih =>
  intro k E hS j φ hj;obtain ⟨h1,h2⟩:=hS
  cases j with
  | zero =>
   simp at hj;subst hj
   cases ho:ops[k]? with
   | none=>rw [ho] at h1;exact h1.elim
   | some o=>rw [ho] at h1;exact ⟨o,by simp,h1.1⟩
  | succ j =>
   obtain ⟨o,ho,hh⟩:=ih (k+1) _ h2 j φ (by simpa using hj);exact ⟨o,by rw [←ho];congr 1;omega,by simpa [Ll] using hh⟩
theorem Mz:∀(Φ:List Asn) (k:Nat) (E:List (Nat×Asn)) (t:Nat) (ψ:Asn),lookA (Ll ops Φ k E) t=some ψ →
  (∃j,dstAt ops (k+j)=some t∧(∀j',j<j'→j'<Φ.length→dstAt ops (k+j')≠some t)∧Φ[j]? = some ψ) ∨
  ((∀j,j<Φ.length→dstAt ops (k+j)≠some t)∧lookA E t=some ψ):=by
 intro Φ
 induction Φ with
 | nil=>intro k E t ψ h;exact .inr ⟨fun j hj=>by simp at hj,h⟩
 | cons φ Φ ih =>
  intro k E t ψ h;simp only [Ll] at h;rcases ih (k+1) _ t ψ h with ⟨j,h1,h2,h3⟩|⟨h1,h2⟩
  ·refine .inl ⟨j+1,by rw [←h1];congr 1;omega,fun j' hj hl=>?_,by simpa using h3⟩;have:=h2 (j'-1) (by omega) (by simp at hl;omega)
   rwa [show k+1+(j'-1)=k+j' by omega] at this
  ·have h1':∀j',0<j'→j'<(φ::Φ).length→dstAt ops (k+j')≠some t:=fun j' hj hl=>by
    have:=h1 (j'-1) (by simp at hl;omega)
    rwa [show k+1+(j'-1)=k+j' by omega] at this
   rcases J0 h2 with ⟨e,rfl⟩|⟨e,hl⟩
   ·exact .inl ⟨0,e,fun j' hj hl=>h1' j' hj hl,rfl⟩
   ·refine .inr ⟨fun j hj=>?_,hl⟩
    cases j with
    | zero=>exact e
    | succ j=>exact h1' (j+1) (by omega) hj
theorem Dj {S:Array Bool} {i:Nat} (h:S.getD i true=false):S.getD i false=false:=by
 rw [Array.getD_eq_getD_getElem?] at *
 cases hi:S[i]? with
 | none=>rw [hi] at h;simp at h
 | some b=>rw [hi] at h;simpa using h
theorem Cw {S:Array Bool} {i:Nat} (h:S.getD i false=true):i<S.size:=by
 rcases Nat.lt_or_ge i S.size with h'|h'
 ·exact h'
 ·simp [Array.getElem?_eq_none h'] at h
theorem Cm {S:Array Bool} {i:Nat} (h:i<S.size):(S.setIfInBounds i true).getD i false=true:=by simp [h]
theorem Kg:∀(l:List Bool) (i:Nat),l[i]? = some false→(l.set i true).count false+1=l.count false:=by
 intro l
 induction l with
 | nil=>intro i h;simp at h
 | cons b l ih =>
  intro i h
  cases i with
  | zero=>simp at h;subst h;simp
  | succ i =>
   simp at h;have:=ih i h
   cases b<;>simp<;>omega
theorem Kf {l:List Bool} {i:Nat} (h:l[i]? = some false):0<l.count false:=List.count_pos_iff.2 (List.mem_of_getElem? h)
theorem Ds {S:Array Bool} {i:Nat} (h:S.getD i true=false):S.toList[i]? = some false:=by
 rw [Array.getD_eq_getD_getElem?] at h;rw [Array.getElem?_toList]
 cases hi:S[i]? with
 | none=>rw [hi] at h;simp at h
 | some b=>rw [hi] at h;simp at h;rw [h]
def Closed (ops:Array Oper) (S:Array Bool):Prop :=
 ∀i o e,S.getD i false=true→ops[i]? = some o→e∈o.after→Region.binds .any e=true→S.getD e.on false=true
theorem Anc.listed {S:Array Bool} (hc:Closed ops S) {i j:Nat} (h:Anc ops j i):S.getD i false=true→S.getD j false=true:=by
 induction h with
 | one ho he hb hj=>intro hi;subst hj;exact hc _ _ _ hi ho he hb
 | trans _ _ ih1 ih2=>intro hi;exact ih2 (ih1 hi)
theorem Anc.ready {S:Array Bool} (hc:Closed ops S) {i j:Nat} (h:Anc ops j i):i∈Region.ready .any ops S→S.getD j false=true:=by
 induction h with
 | one ho he hb hj =>
  intro hi;obtain ⟨_,o,ho',hall⟩:=mem_ready.1 hi;rw [ho] at ho';cases ho'
  subst hj;exact hall _ he hb
 | trans _ h2 ih1 _=>intro hi;exact h2.listed hc (ih1 hi)
theorem Closed.set {S:Array Bool} (hc:Closed ops S) {i:Nat} (hi:i∈Region.ready .any ops S):Closed ops (S.setIfInBounds i true):=by
 intro j o e hj ho he hb
 by_cases hij:i=j
 ·subst hij;obtain ⟨_,o',ho',hall⟩:=mem_ready.1 hi;rw [ho] at ho';cases ho'
  exact getD_set_true (hall _ he hb)
 ·rw [getD_set_ne false hij] at hj;exact getD_set_true (hc _ _ _ hj ho he hb)
theorem Fv {S:Array Bool} (hedge:Cf ops=true) (hs:S.size=ops.size) (h:Region.ready .any ops S=[]):∀i,i<ops.size→S.getD i false=true:=by
 intro i
 induction i using Nat.strongRecOn with
 | _ i ih =>
  intro hi
  cases hb:S.getD i false with
  | true=>rfl
  | false =>
   exfalso;have:i∈Region.ready .any ops S:=by
    rw [mem_ready];refine ⟨?_,ops[i],Array.getElem?_eq_getElem hi,fun e he hbnd=>?_⟩
    ·rw [Array.getD_eq_getD_getElem?] at hb ⊢;rw [Array.getElem?_eq_getElem (by omega)] at hb ⊢
     simpa using hb
    ·have:=Q6 hedge (Array.getElem?_eq_getElem hi) he hbnd;exact ih e.on this (by omega)
   rw [h] at this
   cases this
theorem Jc {m:Nat} (hedge:Cf ops=true) (htail:E9 ops m=true):∀(fuel k:Nat) (S:Array Bool) (a:Act) (w:World),m≤k→S.size=ops.size →
  Closed ops S→(∀i,S.getD i false=true↔i<k∧i<ops.size)→ops.size≤k+fuel→k≤ops.size→WI P r ops Q k a w→wpAnyIn (F0 r) 0 P .any ops Q fuel S a w:=by
 intro fuel;have fin:∀(S:Array Bool) (a:Act) (w:World),WI P r ops Q ops.size a w→Q .normal a w:=fun S a w h=>by simpa [WI,wpOpsIn] using h
 have done:∀(S:Array Bool),S.size=ops.size→(∀i,i<ops.size→S.getD i false=true)→Region.ready .any ops S=[]:=by
  intro S hs h;rw [List.eq_nil_iff_forall_not_mem];intro i hi;obtain ⟨h0,o,ho,_⟩:=mem_ready.1 hi;have:=h i (Array.getElem?_eq_some_iff.1 ho).1;rw [Dj h0] at this
  cases this
 induction fuel with
 | zero =>
  intro k S a w hk hs hc hS hf hkn hW;obtain rfl:k=ops.size:=by omega
  exact ⟨done S hs (fun i hi=>(hS i).2 ⟨hi,hi⟩),fin S a w hW⟩
 | succ fuel ih =>
  intro k S a w hk hs hc hS hf hkn hW;refine ⟨fun h0=>?_,fun i hi=>?_⟩
  ·have hall:=Fv hedge hs h0;have:k=ops.size:=by
    rcases Nat.lt_or_ge k ops.size with h|h
    ·have:=(hS k).1 (hall k h);omega
    ·omega
   subst this;exact fin S a w hW
  ·obtain ⟨h0,o,ho,hedges⟩:=mem_ready.1 hi;have hin:i<ops.size:=(Array.getElem?_eq_some_iff.1 ho).1;have hik:k≤i:=by
    rcases Nat.lt_or_ge i k with h|h
    ·have:=(hS i).2 ⟨h,hin⟩;rw [Dj h0] at this;cases this
    ·exact h
   have:i=k:=by
    rcases Nat.lt_or_ge k i with h|h
    ·have:=(H2 htail (by omega) hin h).ready hc hi;have:=((hS k).1 this).1;omega
    ·omega
   subst this;have e:List.range' i (ops.size-i)=i::List.range' (i+1) (ops.size-(i+1)):=by
    rw [show ops.size-i=(ops.size-(i+1))+1 by omega,List.range'_succ]
   unfold WI at hW;rw [e,wpOpsIn_cons] at hW;refine wpOpIn_mono (fun a' w' h'=>ih (i+1) _ a' w' (by omega) (by simp [hs]) (hc.set hi) ?_ (by omega) (by omega) h') hW;intro j
   by_cases hij:i=j
   ·subst hij;simp only [Cm (show i<S.size by omega),true_iff];omega
   ·rw [getD_set_ne false hij,hS j];omega
structure AInv (ops:Array Oper) (m:Nat) (Φ:List Asn) (E:List (Nat×Asn)) (D:World→Prop) (N:Nat) (ds:List Deferred) (S:Array Bool) (a:Act) (w:World):Prop where
 ssz:S.size=ops.size
 low:∀i,S.getD i false=true→i<m
 closed:Closed ops S
 sz:a.tmps.size=N
 dfs:a.defers=ds
 tw:D w
 last:∀i d φ,S.getD i false=true→dstAt ops i=some d→(∀k,i<k→S.getD k false=true→dstAt ops k≠some d)→Φ[i]? = some φ→φ (a.tmps.getD d undef) w
 base:∀t ψ,(∀i,S.getD i false=true→dstAt ops i≠some t)→lookA E t=some ψ→ψ (a.tmps.getD t undef) w
theorem V3 {m:Nat} {Φ:List Asn} {E:List (Nat×Asn)} {ds:List Deferred} (hD:∀w w',D w→T w w'→D w') (hdst:Al ops N=true) (hord:F9 ops m=true) (htail:E9 ops m=true) (hedge:Cf ops=true)
  (hlen:Φ.length=m) (hmn:m≤ops.size) (hseg:Seg P r ops T D Φ 0 E) (hst:∀φ∈Φ,K8 T φ) (hstE:∀t ψ,lookA E t=some ψ→K8 T ψ)
  (hK:∀a' w',D w'→a'.tmps.size=N→a'.defers=ds→EnvOk (Ll ops Φ 0 E) a' w'→WI P r ops Q m a' w') :
  ∀(fuel:Nat) (S:Array Bool) (a:Act) (w:World),AInv ops m Φ E D N ds S a w→S.toList.count false≤fuel→wpAnyIn (F0 r) 0 P .any ops Q fuel S a w:=by
 have conf:∀{i j:Nat} {x y:Oper},i<j→j<m→ops[i]? = some x→ops[j]? = some y→((∃d,x.dst=some d∧d∈y.looksAt ops)∨(∃d,x.dst=some d∧y.dst=some d)∨(∃d,y.dst=some d∧d∈x.looksAt ops))→Anc ops i j:=by
  intro i j x y hij hj hx hy hc;rcases G6 hord hij hj hx hy with h|h
  ·have hs:=Oper.apart_spec h;rcases hc with ⟨d,h1,h2⟩|⟨d,h1,h2⟩|⟨d,h1,h2⟩
   ·exact absurd h2 (hs.1 d h1)
   ·exact absurd h2 (hs.2.1 d h1)
   ·exact absurd h2 (hs.2.2 d h1)
  ·exact h
 have full:∀(S:Array Bool) (a:Act) (w:World),AInv ops m Φ E D N ds S a w→(∀i,i<m→S.getD i false=true)→WI P r ops Q m a w:=by
  intro S a w hI hall;refine hK a w hI.tw hI.sz hI.dfs ?_;intro t ψ ht;rcases Mz Φ 0 E t ψ ht with ⟨j,h1,h2,h3⟩|⟨h1,h2⟩
  ·have hj:j<m:=by rw [←hlen];exact (List.getElem?_eq_some_iff.1 h3).1
   rw [Nat.zero_add] at h1;refine hI.last j t ψ (hall j hj) h1 (fun k hk hSk=>?_) h3;have:=h2 k hk (by rw [hlen];exact hI.low k hSk)
   rwa [Nat.zero_add] at this
  ·refine hI.base t ψ (fun i hi=>?_) h2;have:=h1 i (by rw [hlen];exact hI.low i hi)
   rwa [Nat.zero_add] at this
 intro fuel
 induction fuel with
 | zero =>
  intro S a w hI hcnt;have hall:∀i,i<ops.size→S.getD i false=true:=by
   intro i hi
   cases hb:S.getD i false with
   | true=>rfl
   | false =>
    have hti:S.getD i true=false:=by
     rw [Array.getD_eq_getD_getElem?] at hb ⊢;rw [Array.getElem?_eq_getElem (by rw [hI.ssz];exact hi)] at hb ⊢
     simpa using hb
    have:=Kf (Ds hti);omega
  have hmeq:m=ops.size:=by
   rcases Nat.lt_or_ge m ops.size with h|h
   ·have:=hI.low m (hall m h);omega
   ·omega
  have hW:=full S a w hI (fun i hi=>hall i (by omega));refine Jc hedge htail 0 m S a w (Nat.le_refl _) hI.ssz hI.closed (fun i=>?_) (by omega) (by omega) hW;exact ⟨fun h=>⟨hI.low i h,by have:=hI.low i h;omega⟩,fun h=>hall i h.2⟩
 | succ fuel ih =>
  intro S a w hI hcnt;refine ⟨fun h0=>?_,fun i hi=>?_⟩
  ·have hall:=Fv hedge hI.ssz h0;have hmeq:m=ops.size:=by
    rcases Nat.lt_or_ge m ops.size with h|h
    ·have:=hI.low m (hall m h);omega
    ·omega
   have hW:=full S a w hI (fun i hi=>hall i (by omega));rw [hmeq] at hW
   simpa [WI,wpOpsIn] using hW
  ·obtain ⟨h0,o,ho,hedges⟩:=mem_ready.1 hi;have hin:i<ops.size:=(Array.getElem?_eq_some_iff.1 ho).1;have hiS:¬S.getD i false=true:=by rw [Dj h0];simp
   by_cases him:i<m
   ·
    obtain ⟨o',ho',hop⟩:=Zb Φ 0 E hseg i (Φ[i]'(by omega)) (List.getElem?_eq_getElem (by omega));rw [Nat.zero_add,ho] at ho'
    cases ho'
    have hd:dstAt ops i=o.dst:=by simp [dstAt,ho]
    have hlook:∀t∈o.looksAt ops,∀ψ,lookA (Ll ops (Φ.take i) 0 E) t=some ψ→ψ (a.tmps.getD t undef) w:=by
     intro t ht ψ hl;have later:∀k,i<k→S.getD k false=true→dstAt ops k≠some t:=by
      intro k hk hSk hdk;have hkm:=hI.low k hSk;obtain ⟨y,hy,hyd⟩:∃y,ops[k]? = some y∧y.dst=some t:=by
       unfold dstAt at hdk
       cases hy:ops[k]? with
       | none=>rw [hy] at hdk;simp at hdk
       | some y=>rw [hy] at hdk;exact ⟨y,rfl,by simpa using hdk⟩
      exact hiS ((conf hk hkm ho hy (.inr (.inr ⟨t,hyd,ht⟩))).listed hI.closed hSk)
     rcases Mz (Φ.take i) 0 E t ψ hl with ⟨j,h1,h2,h3⟩|⟨h1,h2⟩
     ·rw [Nat.zero_add] at h1;have hji:j<i:=by
       have:=(List.getElem?_eq_some_iff.1 h3).1;rw [List.length_take] at this;omega
      have hlt:(Φ.take i).length=i:=by rw [List.length_take];omega
      obtain ⟨x,hx,hxd⟩:∃x,ops[j]? = some x∧x.dst=some t:=by
       unfold dstAt at h1
       cases hx:ops[j]? with
       | none=>rw [hx] at h1;simp at h1
       | some x=>rw [hx] at h1;exact ⟨x,rfl,by simpa using h1⟩
      have hSj:=(conf hji him hx ho (.inl ⟨t,hxd,ht⟩)).ready hI.closed hi;refine hI.last j t ψ hSj h1 (fun k hk hSk=>?_) ?_
      ·rcases Nat.lt_trichotomy k i with hki|hki|hki
       ·have:=h2 k hk (by omega);rwa [Nat.zero_add] at this
       ·subst hki;exact absurd hSk hiS
       ·exact later k hki hSk
      ·rw [List.getElem?_take,if_pos hji] at h3;exact h3
     ·refine hI.base t ψ (fun k hSk=>?_) h2;rcases Nat.lt_trichotomy k i with hki|hki|hki
      ·have:=h1 k (by rw [List.length_take];omega);rwa [Nat.zero_add] at this
      ·subst hki;exact absurd hSk hiS
      ·exact later k hki hSk
    refine (hop a w hI.tw hlook).wpOpIn ho ?_;rintro v w' ⟨hww,hφ⟩;refine ih _ _ _ ?_ ?_
    ·refine ⟨by simp [hI.ssz],fun j hj=>?_,hI.closed.set hi,by rw [Ex];exact hI.sz,by rw [Dq];exact hI.dfs,hD _ _ hI.tw hww,?_,?_⟩
     ·by_cases hij:i=j
      ·subst hij;exact him
      ·rw [getD_set_ne false hij] at hj;exact hI.low j hj
     ·intro j d φ hSj hdj hlast hφj
      by_cases hij:i=j
      ·subst hij;rw [hd] at hdj;rw [hdj,Fq (by rw [hI.sz];exact D3 hdst ho hdj)];have:Φ[i]? = some (Φ[i]'(by omega)):=List.getElem?_eq_getElem (by omega);rw [this] at hφj
       cases hφj
       exact hφ
      ·rw [getD_set_ne false hij] at hSj;have hne:o.dst≠some d:=by
        intro hod;rcases Nat.lt_or_ge j i with hji|hji
        ·exact hlast i hji (Cm (by rw [hI.ssz];exact hin)) (by rw [hd];exact hod)
        ·have hij':i<j:=by omega
         obtain ⟨y,hy,hyd⟩:∃y,ops[j]? = some y∧y.dst=some d:=by
          unfold dstAt at hdj
          cases hy:ops[j]? with
          | none=>rw [hy] at hdj;simp at hdj
          | some y=>rw [hy] at hdj;exact ⟨y,rfl,by simpa using hdj⟩
         exact hiS ((conf hij' (hI.low j hSj) ho hy (.inr (.inl ⟨d,hod,hyd⟩))).listed hI.closed hSj)
       rw [Du hne];have hmem:φ∈Φ:=List.mem_of_getElem? hφj;refine hst φ hmem _ _ _ (hI.last j d φ hSj hdj (fun k hk hSk=>hlast k hk (getD_set_true hSk)) hφj) hww
     ·intro t ψ hnone hl;have hne:o.dst≠some t:=fun e=>hnone i (Cm (by rw [hI.ssz];exact hin)) (by rw [hd];exact e);rw [Du hne];exact hstE t ψ hl _ _ _ (hI.base t ψ (fun k hk=>hnone k (getD_set_true hk)) hl) hww
    ·have h1:=Kg S.toList i (Ds h0);have h2:(S.setIfInBounds i true).toList=S.toList.set i true:=by simp
     rw [h2];omega
   ·
    have hall:∀j,j<i→S.getD j false=true:=fun j hj=>(H2 htail (by omega) hin hj).ready hI.closed hi;have him':i=m:=by
     rcases Nat.lt_or_ge m i with h|h
     ·have:=hI.low m (hall m h);omega
     ·omega
    have hW:=full S a w hI (fun j hj=>hall j (by omega));have hSiff:∀j,S.getD j false=true↔j<m∧j<ops.size:=fun j=>⟨fun h=>⟨hI.low j h,by have:=hI.low j h;omega⟩,fun h=>hall j (by omega)⟩;have hle:ops.size≤m+(fuel+1):=by
     have:∀(n k:Nat) (l:List Bool),l.length=n→(∀j,k≤j→j<n→l[j]? = some false)→n≤k+l.count false:=by
      intro n
      induction n with
      | zero=>intro k l _ _;omega
      | succ n ihn =>
       intro k l hl hf
       cases l with
       | nil=>simp at hl
       | cons b l =>
        cases k with
        | zero =>
         have h0':=hf 0 (Nat.le_refl _) (by omega);simp at h0';subst h0';have:=ihn 0 l (by simpa using hl) (fun j _ hj=>by simpa using hf (j+1) (by omega) (by omega));simp;omega
        | succ k =>
         have:=ihn k l (by simpa using hl) (fun j hj hjn=>by simpa using hf (j+1) (by omega) (by omega));have hcl:l.count false≤(b::l).count false:=by cases b<;>simp
         omega
     have:=this ops.size m S.toList (by simpa using hI.ssz) (fun j hj hjn=>by
      have hnot:¬S.getD j false=true:=fun h=>by have:=hI.low j h;omega
      rw [Array.getElem?_toList];rw [Array.getD_eq_getD_getElem?,Array.getElem?_eq_getElem (by rw [hI.ssz];exact hjn)] at hnot;rw [Array.getElem?_eq_getElem (by rw [hI.ssz];exact hjn)]
      simpa using hnot)
     omega
    exact (Jc hedge htail (fuel+1) m S a w (Nat.le_refl _) hI.ssz hI.closed hSiff hle hmn hW).2 i hi
theorem Tx {id m:Nat} {Φ:List Asn} {E:List (Nat×Asn)} {a:Act} {w:World} (hD:∀w w',D w→T w w'→D w') (hmo:P.follows .mixedOrders=true) (hdst:Al ops N=true) (hord:F9 ops m=true) (htail:E9 ops m=true)
  (hedge:Cf ops=true) (hlen:Φ.length=m) (hmn:m≤ops.size) (hseg:Seg P r ops T D Φ 0 E) (hst:∀φ∈Φ,K8 T φ) (hstE:∀t ψ,lookA E t=some ψ→K8 T ψ)
  (hN:a.tmps.size=N) (hE:EnvOk E a { w with drawn:=w.drawn+1 }) (hw:D { w with drawn:=w.drawn+1 })
  (hK:∀a' w',D w'→a'.tmps.size=N→a'.defers=a.defers→EnvOk (Ll ops Φ 0 E) a' w'→WI P r ops Q m a' w') :
  WP P r (.region id ops true) Q a w:=by
 refine wpIn_region_any hmo ?_;have hnone:∀i,¬(Array.replicate ops.size false).getD i false=true:=by
  intro i h;have:=Cw h;simp at this;simp [this] at h
 refine V3 hD hdst hord htail hedge hlen hmn hseg hst hstE hK ops.size _ a _ ⟨by simp,fun i h=>absurd h (hnone i),fun i o e h=>absurd h (hnone i),hN,rfl,hw,fun i d φ h=>absurd h (hnone i),fun t ψ _ hl=>hE t ψ hl⟩ ?_;refine Nat.le_trans List.count_le_length ?_;simp
end
end Go.Eng
namespace Go.Eng
open Go Go.RowKit
def pureSem (P:Program) {α:Type}:Sem α→Option α
 | .pure a=>some a
 | .program k=>pureSem P (k P)
 | .mark _ k=>pureSem P k
 | _=>none
theorem Aq {P:Program} {α:Type}:∀(s:Sem α) (a:α),pureSem P s=some a→∀w,s.run P w=.ok a w:=by
 intro s
 induction s with
 | pure b=>intro a h w;simp [pureSem] at h;subst h;rfl
 | program k ih=>intro a h w;simp only [pureSem] at h;simp only [Sem.run];exact ih P a h w
 | mark m k ih=>intro a h w;simp only [pureSem] at h;simp only [Sem.run];exact ih a h w
 | _=>intro a h w;simp [pureSem] at h
structure Cd where
 slot:Nat
 want:Bool
 p:Bool
def Ak (cs:List Cd):Bool:=cs.all fun c=>c.p==c.want
structure En where
 conds:List Cd
 v:Value
def En.val (e:En):Value:=bif Ak e.conds then e.v else undef
def lookE:List (Nat×En)→Nat→Option En
 | [],_=>none
 | (k,e)::E,t=>bif Nat.beq k t then some e else lookE E t
def toA (E:List (Nat×En)):List (Nat×Asn):=E.map fun p=>(p.1,fun v _=>v=p.2.val)
theorem E5:∀(E:List (Nat×En)) (t:Nat),lookA (toA E) t=(lookE E t).map fun e=>fun v _=>v=e.val:=by
 intro E
 induction E with
 | nil=>intro t;rfl
 | cons p E ih =>
  obtain ⟨k,e⟩:=p;intro t;simp only [toA,List.map_cons,lookA,lookE]
  by_cases h:k=t
  ·simp [h]
  ·have hb:Nat.beq k t=false:=by
    cases hh:Nat.beq k t with
    | false=>rfl
    | true=>rw [Nat.beq_eq] at hh;exact absurd hh h
   simp only [if_neg h,hb,cond_false];exact ih t
def Coh (E:List (Nat×En)) (cs:List Cd):Prop:=∀c∈cs,∃e,lookE E c.slot=some e∧e.v=.bool c.p
def Px (E:List (Nat×En)):Prop:=∀t e,lookE E t=some e→Coh E e.conds
def Ss (cur:List Cd) (e:En):Bool:=e.conds.all fun c=>cur.any fun d=>Nat.beq d.slot c.slot&&(d.want==c.want)
theorem Gn {cs:List Cd}:Ak cs=true↔∀c∈cs,c.p=c.want:=by simp [Ak]
theorem Yd {E:List (Nat×En)} {cur:List Cd} {e:En} (hc:Coh E cur) (he:Coh E e.conds) (hv:Ss cur e=true) (hk:Ak cur=true):Ak e.conds=true:=by
 rw [Gn] at *;intro c hcm;unfold Ss at hv;rw [List.all_eq_true] at hv;have:=hv c hcm;rw [List.any_eq_true] at this;obtain ⟨d,hd,hh⟩:=this;rw [Bool.and_eq_true,Nat.beq_eq] at hh;obtain ⟨e1,h1,h1'⟩:=hc d hd;obtain ⟨e2,h2,h2'⟩:=he c hcm;rw [hh.1,h2] at h1
 cases h1
 rw [h1'] at h2';have hp:d.p=c.p:=by injection h2'
 have hw:d.want=c.want:=by simpa using hh.2
 rw [←hp,←hw];exact hk d hd
def rhoE (E:List (Nat×En)):Operand→Value
 | .tmp t=>match lookE E t with|some e=>e.v|none=>undef
 | .const v=>v
 | .global g=>.pointer (some ⟨g,0,none⟩)
 | .func f=>.func (.func f) #[] #[]
def Bw (E:List (Nat×En)) (cur:List Cd):Operand→Bool
 | .tmp t=>match lookE E t with|some e=>Ss cur e|none=>false
 | _=>true
def G0 (ops:Array Oper) (E:List (Nat×En)) (o:Oper):Option (List Cd) :=
 match o.guard with
 | none=>some []
 | some (j,want) =>
  match dstAt ops j with
  | none=>none
  | some g =>
   match lookE E g with
   | none=>none
   | some e=>match e.v with|.bool p=>some (⟨g,want,p⟩::e.conds)|_=>none
inductive Ob where
 | run (cs:List Cd) (s:Sem Value) (v:Value)
 | call (cs:List Cd) (f:FuncId) (args:Array Value) (v:Value)
def Ob.v:Ob→Value
 | .run _ _ v=>v
 | .call _ _ _ v=>v
def Ob.ok (P:Program) (T:World→World→Prop) (D:World→Prop):Ob→Prop
 | .run cs s v=>Ak cs=true→∀w',D w'→s.run P w'=.ok v w'
 | .call cs f args v=>Ak cs=true→∀w',D w'→Calls P f args w' (fun e w''=>e=.returned v∧T w' w'')
def Obs (P:Program) (T:World→World→Prop) (D:World→Prop):List Ob→Prop
 | []=>True
 | o::l=>o.ok P T D∧Obs P T D l
def Y0 (p:Bool):Value→Value→Value
 | .bool a,.bool b=>.bool (bif p then a else b)
 | x,y=>bif p then x else y
theorem Tu (x y:Value):Y0 true x y=x:=by cases x<;>cases y<;>rfl
theorem S5 (x y:Value):Y0 false x y=y:=by cases x<;>cases y<;>rfl
def Bp:Op→Bool
 | .defer _=>false
 | .select ..=>false
 | _=>true
def eqS (op:BinOp) (t:TypeId) (xs ys:Array Value):Sem Value:=do
 eqGuard op t (.tmp 0) (.tmp 0) (.agg xs) (.agg ys)
 binOp op t (.agg xs) (.agg ys)
def A21 (op:BinOp) (t:TypeId) (a b:ByteArray):Sem Value:=do
 eqGuard op t (.tmp 0) (.tmp 0) (.string a) (.string b)
 binOp op t (.string a) (.string b)
def Mj (op:BinOp) (t:TypeId):Value→Value→Option (Sem Value)
 | .agg xs,.agg ys=>some (eqS op t xs ys)
 | .string a,.string b=>some (A21 op t a b)
 | .pointer (some a),.pointer (some b)=>some (binOp op t (.pointer (some a)) (.pointer (some b)))
 | _,_=>none
theorem Rg {op:BinOp} {t:TypeId} {a b:Value} {s:Sem Value} (h:Mj op t a b=some s) (x y:Operand):s=(do eqGuard op t x y a b;binOp op t a b):=by
 unfold Mj at h
 split at h
 ·cases h;rfl
 ·cases h;rfl
 ·cases h;cases op<;>rfl
 ·cases h
theorem T9 {P:Program} {w:World} {v:Value} {op:BinOp} {t:TypeId} {a b:Value} {s:Sem Value} {x y:Operand} (h:Mj op t a b=some s) (hr:s.run P w=.ok v w) :
  (do let z ←(do eqGuard op t x y a b;binOp op t a b);pure (Next.value z):Sem Next).run P w=.ok (.value v) w:=by
 rw [Rg h x y] at hr;rw [Sem.run_bind,hr];rfl
def Yx:Sem Value:=stuck "nil"
def Jo (ρ:Operand→Value):Op→Option (Sem Value)
 | .load t x=>some (Instr.loadAt t (ρ x))
 | .indexAddr t x ix=>some (Instr.indexAt t (ρ x) (ρ ix))
 | .index t x ix=>some (Instr.index t (ρ x) (ρ ix))
 | .slice t x lo hi mx=>some (Instr.sliceAt t (ρ x) (lo.map ρ) (hi.map ρ) (mx.map ρ))
 | .binOp .add t x y _=>some (binOp .add t (ρ x) (ρ y))
 | .binOp .sub t x y _=>some (binOp .sub t (ρ x) (ρ y))
 | .binOp .mul t x y _=>some (binOp .mul t (ρ x) (ρ y))
 | .binOp .quo t x y _=>some (binOp .quo t (ρ x) (ρ y))
 | .binOp .rem t x y _=>some (binOp .rem t (ρ x) (ρ y))
 | .convert s t x=>some (convert s t (ρ x))
 | .binOp .eql t x y _=>Mj .eql t (ρ x) (ρ y)
 | .binOp .neq t x y _=>Mj .neq t (ρ x) (ρ y)
 | .nilCheck x=>match ρ x with
  | .pointer none=>some Yx
  | _=>none
 | .fieldAddr _ x _=>match ρ x with
  | .pointer none=>some Yx
  | _=>none
 | _=>none
theorem Le {P:Program} {ρ:Operand→Value} {o:Oper} {s:Sem Value} {v:Value} {w:World} (h:Jo ρ o.op=some s) (hr:s.run P w=.ok v w) :
  Bp o.op=true∧(execOp ρ o).run P w=.ok (.value v) w:=by
 unfold Jo at h;unfold execOp
 split at h<;>rename_i hop<;>(try (simp only [Option.some.injEq,reduceCtorEq] at h;done))<;>rw [hop]<;>refine ⟨rfl,?_⟩
 all_goals first
  | (have h':=Option.some.inj h;subst h';simp [hr,eqGuard];done)
  | exact T9 h hr
  | (split at h<;>first|(cases h;simp [Yx,stuck,Sem.run] at hr;done)|(cases h;done))
def Ha (P:Program) (E:List (Nat×En)) (cs:List Cd) (o:Oper) (vs:List Value):Option (En×List Ob×List Value) :=
 bif o.op.operands.toList.all (Bw E cs)&&Bp o.op then
  match pureSem P (execOp (rhoE E) o) with
  | some (.value v)=>some (⟨cs,v⟩,[],vs)
  | some .skip=>some (⟨cs,undef⟩,[],vs)
  | some (.enter f args)=>match vs with|v::vs'=>some (⟨cs,v⟩,[.call cs f args v],vs')|[]=>none
  | _=>none
 else none
def Ki (P:Program) (ops:Array Oper) (E:List (Nat×En)) (o:Oper) (vs:List Value):Option (En×List Ob×List Value) :=
 match G0 ops E o with
 | none=>none
 | some cs =>
  match o.op with
  | .pick (.tmp t) x y =>
   match lookE E t with
   | none=>none
   | some ec =>
    match ec.v with
    | .bool p=>bif Ss cs ec&&Bw E (⟨t,true,p⟩::cs) x&&Bw E (⟨t,false,p⟩::cs) y then some (⟨cs,Y0 p (rhoE E x) (rhoE E y)⟩,[],vs) else none
    | _=>none
  | op =>
   match Jo (rhoE E) op with
   | some s =>
    bif o.op.operands.toList.all (Bw E cs) then
     match vs with
     | v::vs'=>some (⟨cs,v⟩,[.run cs s v],vs')
     | []=>none
    else none
   | none=>Ha P E cs o vs
def Qa (d:Nat) (cs:List Cd):Bool:=cs.all fun c=>!Nat.beq c.slot d
def Qr (E:List (Nat×En)) (d:Option Tmp) (e:En):List (Nat×En) :=
 match d with
 | some d=>(d,e)::E
 | none=>E
def H7 (E:List (Nat×En)) (d:Option Tmp) (e:En):Bool :=
 match d with
 | some d=>Qa d e.conds&&E.all fun p=>Qa d p.2.conds
 | none=>true
def evalSeg (P:Program) (ops:Array Oper):Nat→Nat→List (Nat×En)→List Value→Option (List (Nat×En)×List Ob)
 | 0,_,E,vs=>match vs with|[]=>some (E,[])|_=>none
 | n+1,k,E,vs =>
  match ops[k]? with
  | none=>none
  | some o =>
   match Ki P ops E o vs with
   | none=>none
   | some (e,ob,vs') =>
    bif H7 E o.dst e then
     match evalSeg P ops n (k+1) (Qr E o.dst e) vs' with
     | none=>none
     | some (E',obs)=>some (E',ob++obs)
    else none
section
variable {P:Program} {r:Option Nat} {ops:Array Oper} {T:World→World→Prop} {D:World→Prop}
theorem Obs.append:∀{a b:List Ob},Obs P T D (a++b)↔Obs P T D a∧Obs P T D b:=by
 intro a
 induction a with
 | nil=>intro b;simp [Obs]
 | cons o a ih=>intro b;simp [Obs,ih,and_assoc]
theorem Da {E:List (Nat×En)} {cur:List Cd} {a:Act} (hcE:Px E) (hc:Coh E cur) (hk:Ak cur=true) {x:Operand} (hx:Bw E cur x=true)
  (hs:∀t,x=.tmp t→∀e,lookE E t=some e→a.tmps.getD t undef=e.val):a.eval x=rhoE E x:=by
 cases x with
 | tmp t =>
  simp only [Bw] at hx
  cases hl:lookE E t with
  | none=>rw [hl] at hx;simp at hx
  | some e =>
   rw [hl] at hx;have:=hs t rfl e hl;simp only [Act.eval,rhoE,hl];rw [this];simp [En.val,Yd hc (hcE t e hl) hx hk]
 | const v=>rfl
 | global g=>rfl
 | func f=>rfl
theorem E4 {E:List (Nat×En)} {o:Oper} {cs:List Cd} {a:Act} (hcE:Px E) (hg:G0 ops E o=some cs)
  (hs:∀t∈o.looksAt ops,∀e,lookE E t=some e→a.tmps.getD t undef=e.val):Coh E cs∧Region.wanted o (yielded ops a.tmps)=Ak cs:=by
 unfold G0 at hg;unfold Region.wanted
 cases hgd:o.guard with
 | none =>
  rw [hgd] at hg;simp at hg;subst hg;exact ⟨fun c hc=>by simp at hc,rfl⟩
 | some jw =>
  obtain ⟨j,want⟩:=jw;rw [hgd] at hg;simp only at hg
  cases hd:dstAt ops j with
  | none=>rw [hd] at hg;simp at hg
  | some g =>
   rw [hd] at hg;simp only at hg
   cases hl:lookE E g with
   | none=>rw [hl] at hg;simp at hg
   | some e =>
    rw [hl] at hg;simp only at hg
    cases hv:e.v with
    | bool p =>
     rw [hv] at hg;simp at hg;subst hg;have hmem:g∈o.looksAt ops:=by
      unfold Oper.looksAt;rw [hgd];refine List.mem_append_right _ ?_;have:(ops[j]?).bind (·.dst)=some g:=hd;simp [this]
     have hval:=hs g hmem e hl;refine ⟨?_,?_⟩
     ·intro c hc;rcases List.mem_cons.1 hc with rfl|hc
      ·exact ⟨e,hl,hv⟩
      ·exact hcE g e hl c hc
     ·have hy:yielded ops a.tmps j=(match a.tmps[g]? with|some (.bool b)=>some b|_=>none):=by
       unfold yielded;have:(ops[j]?).bind (·.dst)=some g:=hd;rw [this];rfl
      simp only [hy];rw [Array.getD_eq_getD_getElem?] at hval;have hc2:Ak (⟨g,want,p⟩::e.conds)=((p==want)&&Ak e.conds):=rfl;rw [hc2]
      cases hk:Ak e.conds with
      | true =>
       have:e.val=.bool p:=by simp [En.val,hk,hv]
       rw [this] at hval
       cases hq:a.tmps[g]? with
       | none=>rw [hq] at hval;simp [undef] at hval
       | some u =>
        rw [hq] at hval;simp at hval;subst hval
        cases p<;>cases want<;>rfl
      | false =>
       have:e.val=undef:=by simp [En.val,hk]
       rw [this] at hval
       cases hq:a.tmps[g]? with
       | none=>simp
       | some u =>
        rw [hq] at hval;simp at hval;subst hval;simp [undef]
    | _=>rw [hv] at hg;simp at hg
theorem Dv {o:Oper} (h:Bp o.op=true) (ρ:Operand→Value):o.semAt r ρ=execOp ρ o :=
 Oper.semAt_eq r ρ o (fun c hc=>by rw [hc] at h;simp [Bp] at h)
theorem Mk {E:List (Nat×En)} {o:Oper} {vs vs':List Value} {e:En} {ob:List Ob} {cs:List Cd} (hT:Trans T) (hcE:Px E) (hcs:G0 ops E o=some cs)
  (h:Ha P E cs o vs=some (e,ob,vs')) (hob:Obs P T D ob):e.conds=cs∧R0 P r ops T D (toA E) o (fun v _=>v=e.val):=by
 unfold Ha at h
 cases hc:(o.op.operands.toList.all (Bw E cs)&&Bp o.op) with
 | false=>rw [hc] at h;simp at h
 | true =>
  rw [hc] at h;simp only [cond_true] at h;rw [Bool.and_eq_true,List.all_eq_true] at hc;obtain ⟨hopd,hpl⟩:=hc;have hrun:∀(a:Act),(∀t∈o.looksAt ops,∀e,lookE E t=some e→a.tmps.getD t undef=e.val)→Ak cs=true→o.semAt r a.eval=execOp (rhoE E) o:=by
   intro a hs hk;rw [Dv hpl];refine execOp_congr o (fun cs' b hh=>by rw [hh] at hpl;simp [Bp] at hpl) ?_;intro x hx;refine Da hcE (E4 hcE hcs hs).1 hk (hopd x (by simpa using hx)) ?_;intro t ht e he;refine hs t ?_ e he;subst ht;exact List.mem_append_left _ (List.mem_filterMap.2 ⟨.tmp t,by simpa using hx,rfl⟩)
  have slots:∀(a:Act) (w:World),(∀t∈o.looksAt ops,∀ψ,lookA (toA E) t=some ψ→ψ (a.tmps.getD t undef) w)→∀t∈o.looksAt ops,∀e,lookE E t=some e→a.tmps.getD t undef=e.val:=by
   intro a w h t ht e he;have:=h t ht (fun v _=>v=e.val) (by rw [E5,he];rfl);exact this
  cases hp:pureSem P (execOp (rhoE E) o) with
  | none=>rw [hp] at h;simp at h
  | some x =>
   rw [hp] at h;have hpr:=Aq _ _ hp
   cases x<;>simp only at h<;>try (simp at h;done)
   case value v =>
    simp at h;obtain ⟨rfl,rfl,rfl⟩:=h;refine ⟨rfl,fun a w hw hl=>?_⟩;have hs:=slots a w hl;unfold OpG;rw [(E4 hcE hcs hs).2]
    cases hk:Ak cs with
    | true=>simp only [if_true,OpR,hrun a hs hk,hpr w];exact ⟨hT.refl w,by simp [En.val,hk]⟩
    | false=>simp only [Bool.false_eq_true,if_false];exact ⟨hT.refl w,by simp [En.val,hk]⟩
   case skip =>
    simp at h;obtain ⟨rfl,rfl,rfl⟩:=h;refine ⟨rfl,fun a w hw hl=>?_⟩;have hs:=slots a w hl;unfold OpG;rw [(E4 hcE hcs hs).2]
    cases hk:Ak cs with
    | true=>simp only [if_true,OpR,hrun a hs hk,hpr w];exact ⟨hT.refl w,by simp [En.val]⟩
    | false=>simp only [Bool.false_eq_true,if_false];exact ⟨hT.refl w,by simp [En.val]⟩
   case enter f args =>
    cases vs with
    | nil=>simp at h
    | cons v vs0 =>
     simp at h;obtain ⟨rfl,rfl,rfl⟩:=h;refine ⟨rfl,fun a w hw hl=>?_⟩;have hs:=slots a w hl;unfold OpG;rw [(E4 hcE hcs hs).2]
     cases hk:Ak cs with
     | true =>
      simp only [if_true,OpR,hrun a hs hk,hpr w];exact Calls.mono (hob.1 hk w hw) (fun e' w'' ⟨h1,h2⟩=>⟨v,h1,h2,by simp [En.val,hk]⟩)
     | false=>simp only [Bool.false_eq_true,if_false];exact ⟨hT.refl w,by simp [En.val,hk]⟩
theorem La {E:List (Nat×En)} {o:Oper} {vs vs':List Value} {e:En} {ob:List Ob} (hT:Trans T) (hcE:Px E) (h:Ki P ops E o vs=some (e,ob,vs')) (hob:Obs P T D ob) :
  Coh E e.conds∧R0 P r ops T D (toA E) o (fun v _=>v=e.val):=by
 have slots:∀(a:Act) (w:World),(∀t∈o.looksAt ops,∀ψ,lookA (toA E) t=some ψ→ψ (a.tmps.getD t undef) w)→∀t∈o.looksAt ops,∀e,lookE E t=some e→a.tmps.getD t undef=e.val:=by
  intro a w h t ht e he;have:=h t ht (fun v _=>v=e.val) (by rw [E5,he];rfl);exact this
 have cohcs:∀{cs},G0 ops E o=some cs→Coh E cs:=by
  intro cs hcs;unfold G0 at hcs
  cases hgd:o.guard with
  | none=>rw [hgd] at hcs;simp at hcs;subst hcs;exact fun c hc=>by simp at hc
  | some jw =>
   obtain ⟨j,want⟩:=jw;rw [hgd] at hcs;simp only at hcs
   cases hd:dstAt ops j with
   | none=>rw [hd] at hcs;simp at hcs
   | some g =>
    rw [hd] at hcs;simp only at hcs
    cases hl:lookE E g with
    | none=>rw [hl] at hcs;simp at hcs
    | some e =>
     rw [hl] at hcs;simp only at hcs
     cases hv:e.v<;>rw [hv] at hcs<;>simp at hcs
     subst hcs;intro c hc;rcases List.mem_cons.1 hc with rfl|hc
     ·exact ⟨e,hl,hv⟩
     ·exact hcE g e hl c hc
 unfold Ki at h
 cases hcs:G0 ops E o with
 | none=>rw [hcs] at h;simp at h
 | some cs =>
  rw [hcs] at h;simp only at h;have opmem:∀x t,x∈o.op.operands→x=.tmp t→t∈o.looksAt ops:=by
   intro x t hx ht;subst ht;exact List.mem_append_left _ (List.mem_filterMap.2 ⟨.tmp t,by simpa using hx,rfl⟩)
  have plain:Ha P E cs o vs=some (e,ob,vs')→Coh E e.conds∧R0 P r ops T D (toA E) o (fun v _=>v=e.val):=fun h'=>by
   have:=Mk (r:=r) hT hcE hcs h' hob;exact ⟨by rw [this.1];exact cohcs hcs,this.2⟩
  split at h
  ·rename_i t x y hop
   cases hl:lookE E t with
   | none=>rw [hl] at h;simp at h
   | some ec =>
    rw [hl] at h;simp only at h
    cases hv:ec.v<;>rw [hv] at h<;>simp only at h<;>try (simp at h;done)
    rename_i p
    cases hc:(Ss cs ec&&Bw E (⟨t,true,p⟩::cs) x&&Bw E (⟨t,false,p⟩::cs) y) with
    | false=>rw [hc] at h;simp at h
    | true =>
     rw [hc] at h;simp at h;obtain ⟨rfl,rfl,rfl⟩:=h;rw [Bool.and_eq_true,Bool.and_eq_true] at hc;refine ⟨cohcs hcs,fun a w hw hll=>?_⟩;have hs:=slots a w hll;unfold OpG;rw [(E4 hcE hcs hs).2];have hcoh:∀b,Coh E (⟨t,b,p⟩::cs):=fun b c hcm=>by
      rcases List.mem_cons.1 hcm with rfl|hcm
      ·exact ⟨ec,hl,hv⟩
      ·exact cohcs hcs c hcm
     cases hk:Ak cs with
     | false=>simp only [Bool.false_eq_true,if_false];exact ⟨hT.refl w,by simp [En.val,hk]⟩
     | true =>
      have hopx:x∈o.op.operands:=by rw [hop];simp [Op.operands]
      have hopy:y∈o.op.operands:=by rw [hop];simp [Op.operands]
      have hopt:Operand.tmp t∈o.op.operands:=by rw [hop];simp [Op.operands]
      have hct:a.eval (.tmp t)=.bool p:=by
       have:=Da (x:=.tmp t) (a:=a) hcE (cohcs hcs) hk (by simp [Bw,hl,hc.1.1]) (fun t' ht' e' he'=>hs t' (opmem _ _ hopt ht') e' he');rw [this];simp [rhoE,hl,hv]
      have hsem:o.semAt r a.eval=execOp a.eval o:=Dv (by rw [hop];rfl) _;simp only [if_true,OpR,hsem];unfold execOp;rw [hop];simp only [hct]
      cases p with
      | true =>
       have hx:=Da (a:=a) hcE (hcoh true) (by simp [Ak] at hk ⊢;exact hk) hc.1.2 (fun t' ht' e' he'=>hs t' (opmem _ _ hopx ht') e' he');exact ⟨hT.refl w,by simp [En.val,hk,Tu,hx]⟩
      | false =>
       have hy:=Da (a:=a) hcE (hcoh false) (by simp [Ak] at hk ⊢;exact hk) hc.2 (fun t' ht' e' he'=>hs t' (opmem _ _ hopy ht') e' he');exact ⟨hT.refl w,by simp [En.val,hk,S5,hy]⟩
  ·cases hh:Jo (rhoE E) o.op with
   | none=>rw [hh] at h;exact plain h
   | some s =>
    rw [hh] at h;simp only at h
    cases hc:o.op.operands.toList.all (Bw E cs) with
    | false=>rw [hc] at h;simp at h
    | true =>
     rw [hc] at h;simp only [cond_true] at h;rw [List.all_eq_true] at hc
     cases vs with
     | nil=>simp at h
     | cons v vs0 =>
      simp at h;obtain ⟨rfl,rfl,rfl⟩:=h;refine ⟨cohcs hcs,fun a w hw hll=>?_⟩;have hs:=slots a w hll;unfold OpG;rw [(E4 hcE hcs hs).2]
      cases hk:Ak cs with
      | false=>simp only [Bool.false_eq_true,if_false];exact ⟨hT.refl w,by simp [En.val,hk]⟩
      | true =>
       have hld:=Le hh (hob.1 hk w hw);have hcong:execOp a.eval o=execOp (rhoE E) o:=by
        refine execOp_congr o (fun cs' b hh'=>by have:=hld.1;rw [hh'] at this;simp [Bp] at this) ?_;intro x hx;exact Da hcE (cohcs hcs) hk (hc x (by simpa using hx)) (fun t' ht' e' he'=>hs t' (opmem _ _ hx ht') e' he')
       simp only [if_true,OpR,Dv hld.1,hcong,hld.2];exact ⟨hT.refl w,by simp [En.val,hk]⟩
theorem Lc {d:Nat} {cs:List Cd} (h:Qa d cs=true):∀c∈cs,c.slot≠d:=by
 intro c hc e;unfold Qa at h;rw [List.all_eq_true] at h;have:=h c hc;rw [e] at this;simp at this
theorem Pk:∀{E:List (Nat×En)} {t:Nat} {e:En},lookE E t=some e→(t,e)∈E:=by
 intro E
 induction E with
 | nil=>intro t e h;simp [lookE] at h
 | cons p E ih =>
  obtain ⟨k,e0⟩:=p;intro t e h;simp only [lookE] at h
  cases hb:Nat.beq k t with
  | true=>rw [hb] at h;simp at h;rw [Nat.beq_eq] at hb;subst hb;subst h;exact List.mem_cons_self ..
  | false=>rw [hb] at h;simp at h;exact List.mem_cons_of_mem _ (ih h)
theorem U7 {E:List (Nat×En)} {d:Option Tmp} {e:En} (h:Px E) (he:Coh E e.conds) (hf:H7 E d e=true):Px (Qr E d e):=by
 cases d with
 | none=>exact h
 | some d =>
  unfold H7 at hf;rw [Bool.and_eq_true,List.all_eq_true] at hf;have lift:∀cs,Coh E cs→(∀c∈cs,c.slot≠d)→Coh (Qr E (some d) e) cs:=by
   intro cs hcs hfree c hc;obtain ⟨e',h1,h2⟩:=hcs c hc;refine ⟨e',?_,h2⟩;simp only [Qr,lookE];have:Nat.beq d c.slot=false:=by
    cases hb:Nat.beq d c.slot with
    | false=>rfl
    | true=>rw [Nat.beq_eq] at hb;exact absurd hb.symm (hfree c hc)
   rw [this];exact h1
  intro t e' hl;simp only [Qr,lookE] at hl
  cases hb:Nat.beq d t with
  | true=>rw [hb] at hl;simp at hl;subst hl;exact lift _ he (Lc hf.1)
  | false=>rw [hb] at hl;simp at hl;exact lift _ (h t e' hl) (Lc (hf.2 _ (Pk hl)))
theorem Uy (E:List (Nat×En)) (d:Option Tmp) (e:En):toA (Qr E d e)=Na (toA E) d (fun v _=>v=e.val):=by cases d<;>rfl
theorem Q9 (hT:Trans T):∀(n k:Nat) (E E':List (Nat×En)) (vs:List Value) (obs:List Ob),evalSeg P ops n k E vs=some (E',obs)→Px E→Obs P T D obs →
  ∃Φ:List Asn,Φ.length=n∧Seg P r ops T D Φ k (toA E)∧(∀φ∈Φ,K8 T φ)∧Ll ops Φ k (toA E)=toA E':=by
 intro n
 induction n with
 | zero =>
  intro k E E' vs obs h _ _
  cases vs with
  | nil=>simp [evalSeg] at h;exact ⟨[],rfl,trivial,fun _ hφ=>by simp at hφ,by rw [h.1];rfl⟩
  | cons=>simp [evalSeg] at h
 | succ n ih =>
  intro k E E' vs obs h hc hob;simp only [evalSeg] at h
  cases ho:ops[k]? with
  | none=>rw [ho] at h;simp at h
  | some o =>
   rw [ho] at h;simp only at h
   cases hev:Ki P ops E o vs with
   | none=>rw [hev] at h;simp at h
   | some x =>
    obtain ⟨e,ob,vs'⟩:=x;rw [hev] at h;simp only at h
    cases hf:H7 E o.dst e with
    | false=>rw [hf] at h;simp at h
    | true =>
     rw [hf] at h;simp only [cond_true] at h
     cases hr:evalSeg P ops n (k+1) (Qr E o.dst e) vs' with
     | none=>rw [hr] at h;simp at h
     | some y =>
      obtain ⟨E1,obs1⟩:=y;rw [hr] at h;simp at h;obtain ⟨rfl,rfl⟩:=h;rw [Obs.append] at hob;obtain ⟨h1,h2⟩:=La (r:=r) hT hc hev hob.1;obtain ⟨Φ,hl,hseg,hst,henv⟩:=ih (k+1) _ _ _ _ hr (U7 hc h1 hf) hob.2;have hd:dstAt ops k=o.dst:=by simp [dstAt,ho]
      rw [Uy] at hseg henv;refine ⟨(fun v _=>v=e.val)::Φ,by simp [hl],⟨by rw [ho];exact ⟨h2,fun _ _=>trivial⟩,by rw [hd];exact hseg⟩,?_,?_⟩
      ·intro φ hφ;rcases List.mem_cons.1 hφ with rfl|hφ
       ·exact fun _ _ _ hv _=>hv
       ·exact hst φ hφ
      ·simp only [Ll,hd];exact henv
end
structure Fr (N:Nat) (ds:List Deferred) (M:List (Nat×Value)) (a:Act):Prop where
 size:a.tmps.size=N
 defers:a.defers=ds
 slot:∀p∈M,a.tmps.getD p.1 undef=p.2
def ofM (M:List (Nat×Value)):List (Nat×En):=M.map fun p=>(p.1,⟨[],p.2⟩)
theorem Kq {M:List (Nat×Value)} {t:Nat} {e:En} (h:lookE (ofM M) t=some e):e.conds=[]∧(t,e.v)∈M:=by
 have:=Pk h;unfold ofM at this;obtain ⟨p,hp,he⟩:=List.mem_map.1 this;obtain ⟨rfl,rfl⟩:=Prod.mk.inj he;exact ⟨rfl,hp⟩
theorem Q5 (M:List (Nat×Value)):Px (ofM M):=fun t e h c hc=>by rw [(Kq h).1] at hc;simp at hc
theorem H8 {N:Nat} {ds:List Deferred} {M:List (Nat×Value)} {a:Act} (h:Fr N ds M a) (w:World):EnvOk (toA (ofM M)) a w:=by
 intro t ψ ht;rw [E5] at ht
 cases hl:lookE (ofM M) t with
 | none=>rw [hl] at ht;simp at ht
 | some e =>
  rw [hl] at ht;simp at ht;subst ht;obtain ⟨h1,h2⟩:=Kq hl;have:=h.slot _ h2;simp only at this;rw [this];simp [En.val,h1,Ak]
theorem K2 (T:World→World→Prop) (E:List (Nat×En)):∀t ψ,lookA (toA E) t=some ψ→K8 T ψ:=by
 intro t ψ ht;rw [E5] at ht
 cases hl:lookE E t with
 | none=>rw [hl] at ht;simp at ht
 | some e=>rw [hl] at ht;simp at ht;subst ht;exact fun _ _ _ hv _=>hv
structure Ends (P:Program) (ops:Array Oper) (n k:Nat) (M M':List (Nat×Value)) (obs:List Ob):Prop where
 eq:((evalSeg P ops n k (ofM M) (obs.map Ob.v)).map fun x=>(M'.map (fun p=>lookE x.1 p.1),x.2))=some (M'.map (fun p=>some ⟨[],p.2⟩),obs)
section
variable {P:Program} {r:Option Nat} {ops:Array Oper} {T:World→World→Prop} {Q:Exit→Act→World→Prop} {N:Nat} {ds:List Deferred} {M M':List (Nat×Value)} {a:Act} {w:World} {obs:List Ob}
theorem Kh {n k:Nat} (hT:Trans T) (h:Ends P ops n k M M' obs) (D:World→Prop) (hob:Obs P T D obs):∃(Φ:List Asn),Φ.length=n∧Seg P r ops T D Φ k (toA (ofM M))∧(∀φ∈Φ,K8 T φ) ∧
  ∀a' w',a'.tmps.size=N→a'.defers=ds→EnvOk (Ll ops Φ k (toA (ofM M))) a' w'→Fr N ds M' a':=by
 have h:=h.eq
 cases hev:evalSeg P ops n k (ofM M) (obs.map Ob.v) with
 | none=>rw [hev] at h;simp at h
 | some x =>
  obtain ⟨E',obs'⟩:=x;rw [hev] at h;simp only [Option.map_some,Option.some.injEq,Prod.mk.injEq] at h;obtain ⟨h1,rfl⟩:=h;obtain ⟨Φ,hl,hseg,hst,henv⟩:=Q9 (r:=r) hT n k _ _ _ _ hev (Q5 M) hob;refine ⟨Φ,hl,hseg,hst,fun a' w' hN hd hE=>⟨hN,hd,?_⟩⟩;intro p hp;rw [henv] at hE;have hlk:lookE E' p.1=some ⟨[],p.2⟩:=List.map_inj_left.1 h1 p hp;have:=hE p.1 (fun v _=>v=(⟨[],p.2⟩:En).val) (by rw [E5,hlk];rfl)
  simpa [En.val,Ak] using this
theorem Ty {n k:Nat} (k':Nat) (M':List (Nat×Value)) (hF:Fr N ds M a) (hdst:Al ops N=true) (hob:Obs P (fun a b=>b=a) (fun x=>x=w) obs) (h:Ends P ops n k M M' obs) (hk:k+n=k')
  (next:∀a',Fr N ds M' a'→WI P r ops Q k' a' w):WI P r ops Q k a w:=by
 obtain ⟨Φ,hl,hseg,hst,hfin⟩:=Kh (r:=r) (N:=N) (ds:=ds) Nu h (fun x=>x=w) hob;refine Uw Nu (fun _ _ h k=>k.trans h) hdst Φ k _ a w hseg hst (K2 _ _) rfl hF.size (H8 hF w) ?_;intro a' w' hw hN hd hE;subst hw;rw [hl,hk];exact next a' (hfin a' w' hN (hd.trans hF.defers) hE)
theorem A15 {n k:Nat} (k':Nat) (M':List (Nat×Value)) (hF:Fr N ds M a) (hdst:Al ops N=true) (hob:Obs P Ext (Ext w) obs) (h:Ends P ops n k M M' obs) (hk:k+n=k')
  (next:∀a' w',Fr N ds M' a'→Ext w w'→WI P r ops Q k' a' w'):WI P r ops Q k a w:=by
 obtain ⟨Φ,hl,hseg,hst,hfin⟩:=Kh (r:=r) (N:=N) (ds:=ds) L4 h (Ext w) hob;refine Uw L4 (fun _ _ h k=>h.trans k) hdst Φ k _ a w hseg hst (K2 _ _) (Ext.refl w) hF.size (H8 hF w) ?_;intro a' w' hw hN hd hE;rw [hl,hk];exact next a' w' (hfin a' w' hN (hd.trans hF.defers) hE) hw
theorem Ml (w:World):Ext w { w with drawn:=w.drawn+1 }:=⟨rfl,rfl,rfl,Nat.le_refl _,fun _ _=>rfl⟩
theorem A27 {id:Nat} (m:Nat) (M':List (Nat×Value)) (hmo:P.follows .mixedOrders=true) (hF:Fr N ds M a) (hck:(Al ops N&&F9 ops m&&E9 ops m&&Cf ops&&Nat.ble m ops.size)=true) (hob:Obs P Ext (Ext w) obs)
  (h:Ends P ops m 0 M M' obs) (next:∀a' w',Fr N ds M' a'→Ext w w'→WI P r ops Q m a' w'):WP P r (.region id ops true) Q a w:=by
 rw [Bool.and_eq_true,Bool.and_eq_true,Bool.and_eq_true,Bool.and_eq_true] at hck;obtain ⟨⟨⟨⟨h1,h2⟩,h3⟩,h4⟩,h5⟩:=hck;have hw1:=Ml w;obtain ⟨Φ,hl,hseg,hst,hfin⟩:=Kh (r:=r) (N:=N) (ds:=ds) L4 h (Ext w) hob;refine Tx (fun _ _ h k=>Ext.trans h k) hmo h1 h2 h3 h4 hl (Nat.le_of_ble_eq_true h5) hseg hst (K2 _ _) hF.size (H8 hF _) hw1 ?_;intro a' w' hw hN hd hE;exact next a' w' (hfin a' w' hN (hd.trans hF.defers) hE) hw
end
end Go.Eng
namespace Go.Eng
open Go Go.RowKit
section
variable {P:Program} {r:Option Nat} {Q:Exit→Act→World→Prop} {K:Act→World→Prop} {a:Act} {w:World} {N:Nat} {ds:List Deferred} {M:List (Nat×Value)}
theorem Ae (h:K a w):Exit.then K Q .normal a w:=h
theorem An {id:Nat} (h:Q .normal a w):Exit.inBlock id Q .normal a w:=h
theorem Af (h:Q .ret a w):Exit.then K Q .ret a w:=h
theorem Ay {id:Nat} (h:Q .ret a w):Exit.inBlock id Q .ret a w:=h
theorem Ac {id:Nat} (h:Q (.exit id) a w):Exit.then K Q (.exit id) a w:=h
theorem B8 {id:Nat} (h:Q .normal a w):Exit.inBlock id Q (.exit id) a w:=by simpa [Exit.inBlock] using h
theorem WI.fin {ops:Array Oper} {k:Nat} (hk:Nat.beq k ops.size=true) (h:Q .normal a w):WI P r ops Q k a w:=by
 rw [Nat.beq_eq] at hk;rw [hk];exact WI.nil h
theorem Bb {x y:Code} (h:WP P r x (Exit.then (fun a w=>WP P r y Q a w) Q) a w):WP P r (.seq x y) Q a w:=wpIn_seq h
theorem D9 {x y:Code} (K:Act→World→Prop) (h:WP P r x (Exit.then K Q) a w) (hk:∀a w,K a w→WP P r y Q a w):WP P r (.seq x y) Q a w :=
 wpIn_seq (wpIn_mono h fun e a w q=>by cases e<;>first|exact hk _ _ q|exact q)
def lookM:List (Nat×Value)→Nat→Option Value
 | [],_=>none
 | (k,v)::M,t=>bif Nat.beq k t then some v else lookM M t
theorem Vn:∀{M:List (Nat×Value)} {t:Nat} {v:Value},lookM M t=some v→(t,v)∈M:=by
 intro M
 induction M with
 | nil=>intro t v h;simp [lookM] at h
 | cons p M ih =>
  obtain ⟨k,v0⟩:=p;intro t v h;simp only [lookM] at h
  cases hb:Nat.beq k t with
  | true=>rw [hb] at h;simp at h;rw [Nat.beq_eq] at hb;subst hb;subst h;exact List.mem_cons_self ..
  | false=>rw [hb] at h;simp at h;exact List.mem_cons_of_mem _ (ih h)
theorem Fr.get (h:Fr N ds M a) {t:Nat} {v:Value} (hl:lookM M t=some v):a.tmps.getD t undef=v:=h.slot _ (Vn hl)
theorem Fr.sub {M':List (Nat×Value)} (h:Fr N ds M a) (hs:M'.map (fun p=>lookM M p.1)=M'.map (fun p=>some p.2)):Fr N ds M' a :=
 ⟨h.size,h.defers,fun p hp=>h.get (List.map_inj_left.1 hs p hp)⟩
theorem Pe {c:Nat} {x y:Code} {t:Bool} (hF:Fr N ds M a) (hl:lookM M c=some (.bool t)) (ht:t=true→WP P r x Q a w) (hf:t=false→WP P r y Q a w):WP P r (.cond (.tmp c) x y) Q a w :=
 wpIn_cond_split (t:=t) (hF.get hl) ht hf
theorem Dh {c:Code} (I:Nat→Act→World→Prop) (n0:Nat) (h0:I n0 a w)
  (round:∀n a w,I n a w→WP P r c (Exit.then (fun a' w'=>∃n',n'<n∧I n' a' w') Q) a w):WP P r (.loop c) Q a w:=by
 intro b k cs hro hb hr;have key:∀n a w,I n a w→∃e a' w',Q e a' w'∧ArrivesIn (Machine.fenced P (F0 r)) P (lone (b.atR a (.code c::.inLoop c::k)) cs w) b k cs e a' w':=by
  intro n
  induction n using Nat.strongRecOn with
  | _ n ih =>
   intro a w hI;obtain ⟨e,a₁,w₁,hq,harr⟩:=round n a w hI b (.inLoop c::k) cs hro hb hr
   cases e with
   | normal =>
    obtain ⟨n',hlt,hI₁⟩:=hq;obtain ⟨e₂,a₂,w₂,hq₂,harr₂⟩:=ih n' hlt a₁ w₁ hI₁;exact ⟨e₂,a₂,w₂,hq₂,.of_steps (StepsIn.trans harr (.one (Kk _ _ _) stepR_inLoop)) harr₂⟩
   | exit id=>exact ⟨_,a₁,w₁,hq,.pass (x:=.inLoop c) rfl (fun _ _=>.inl (by simp)) harr⟩
   | goto l=>exact ⟨_,a₁,w₁,hq,.pass (x:=.inLoop c) rfl (fun _ _=>.inl (by simp)) harr⟩
   | ret=>exact ⟨_,a₁,w₁,hq,.pass (x:=.inLoop c) rfl (fun _ _=>.inl (by simp)) harr⟩
   | panic ch=>exact ⟨_,a₁,w₁,hq,.pass (x:=.inLoop c) rfl (fun _ _=>.inl (by simp)) harr⟩
   | outgrown=>exact ⟨_,a₁,w₁,hq,.pass (x:=.inLoop c) rfl (fun _ _=>.inl (by simp)) harr⟩
 obtain ⟨e,a',w',hq,harr⟩:=key n0 a w h0;exact ⟨e,a',w',hq,.of_steps (.one (Kk _ _ _) stepR_loop) harr⟩
theorem X6 {f:FuncId} {fn:Func} {c:Code} {args:Array Value} {R:Ending→World→Prop} (hf:P.funcs[f]? = some fn) (hb:fn.body=some c) (N:Nat) (M:List (Nat×Value)) (hN:fn.ntmps=N)
  (hsz:Nat.ble args.size N=true) (hM:M.map (fun p=>(args++Array.replicate (N-args.size) undef).getD p.1 undef)=M.map Prod.snd) (h:∀a,Fr N [] M a→WP P none c (bodyPost P fn R) a w):Calls P f args w R:=by
 refine E3 (r:=none) (n:=0) |>.1 (callsIn_of_wp hf hb trivial ?_ rfl);refine h _ ⟨?_,rfl,fun p hp=>?_⟩
 ·have:=Nat.le_of_ble_eq_true hsz;simp [hN];omega
 ·rw [hN];exact List.map_inj_left.1 hM p hp
def R2 (P:Program) (w:World) (M:List (Nat×Value)):List ResultVar→List Value→Prop
 | [],[]=>True
 | .tmp t::rs,v::vs=>lookM M t=some v∧R2 P w M rs vs
 | .cell p ty::rs,v::vs=>(∃ad,lookM M p=some (.pointer (some ad))∧(loadVar ty ad).run P w=.ok v w)∧R2 P w M rs vs
 | _,_=>False
def Ff (tmps:Array Value):ResultVar→Sem Value
 | .tmp t=>pure (tmps.getD t undef)
 | .cell p t=>do loadVar t (←asAddr (tmps.getD p undef))
theorem W8:∀(rs:List ResultVar) (vs:List Value),R2 P w M rs vs→Fr N ds M a→(rs.mapM (Ff a.tmps)).run P w=.ok vs w:=by
 intro rs
 induction rs with
 | nil=>intro vs h _;cases vs with|nil=>simp|cons=>exact h.elim
 | cons x rs ih =>
  intro vs h hF
  cases vs with
  | nil=>cases x<;>exact h.elim
  | cons v vs =>
   rw [List.mapM_cons];have hx:(Ff a.tmps x).run P w=.ok v w∧R2 P w M rs vs:=by
    cases x with
    | tmp t =>
     obtain ⟨h1,h2⟩:=h;refine ⟨?_,h2⟩;simp only [Ff];rw [hF.get h1];rfl
    | cell p ty =>
     obtain ⟨⟨ad,h1,h1'⟩,h2⟩:=h;refine ⟨?_,h2⟩;simp only [Ff];rw [hF.get h1];simp [asAddr,h1']
   rw [Sem.run_bind,hx.1,Result.andThen_ok,Sem.run_bind,ih vs hx.2 hF];simp
theorem Bl {fn:Func} {R:Ending→World→Prop} (rs:List ResultVar) (vs:List Value) (hF:Fr N [] M a) (hrs:fn.results=rs.toArray) (h:R2 P w M rs vs)
  (hR:R (.returned (match vs with|[v]=>v|_=>.tuple vs.toArray)) w):bodyPost P fn R .ret a w:=by
 refine ⟨hF.defers,_,?_,hR⟩;have hm:=W8 (a:=a) rs vs h hF;have e:results fn a.tmps=(do let vs ←fn.results.mapM (Ff a.tmps);pure (if h:vs.size=1 then vs[0] else .tuple vs)):=by
  unfold results
  congr 1
 rw [e,hrs,List.mapM_toArray];simp [hm];rcases vs with _|⟨v,_|⟨u,vs⟩⟩<;>simp
end
def Blk (w:World) (b:Nat) (t:TypeId) (cs:Array Value):Prop:=w.heap[b]? = some (.cells cs t (0,0))
structure Res where
 foot:Nat→Prop
 holds:World→Prop
 loc:∀w w',(∀b,foot b→w'.heap[b]? = w.heap[b]?)→holds w→holds w'
 lt:∀w b,holds w→foot b→b<w.heap.size
def blk (b:Nat) (t:TypeId) (cs:Array Value):Res where
 foot:=fun k=>k=b
 holds:=fun w=>Blk w b t cs
 loc:=fun w w' h hb=>(h b rfl).trans hb
 lt:=fun w k hb hk=>by subst hk;exact (Array.getElem?_eq_some_iff.1 hb).1
def vec (v:Value) (e:TypeId) (sz n:Nat) (xs:List Value):Res where
 foot:=fun k=>v.ownBlock=some k
 holds:=fun w=>w.ownsRow 0 e sz v n xs
 loc:=fun w w' h hb=>by
  refine ⟨hb.1,?_⟩;rcases hb.2 with hn|⟨g,cap,cur,rfl,hz,hg,rest⟩
  ·exact .inl hn
  ·exact .inr ⟨g,cap,cur,rfl,hz,(h g rfl).trans hg,rest⟩
 lt:=fun w k hb hk=>(hb.lt k hk).2
structure St (w0:World) (H:List Res) (w:World):Prop where
 ext:Ext w0 w
 holds:∀R∈H,R.holds w
 low:∀R∈H,∀b,R.foot b→w0.heap.size≤b
 apart:H.Pairwise fun R S=>∀b,R.foot b→¬S.foot b
section
variable {w0 w w':World} {H:List Res}
theorem St.cast {w1:World} (h:St w0 H w1) (hw:w=w1):St w0 H w:=hw▸h
theorem St.init (w:World):St w [] w:=⟨Ext.refl w,fun _ h=>by simp at h,fun _ h=>by simp at h,.nil⟩
theorem Res.later {R:Res} (h:R.holds w) (hx:Ext w w'):R.holds w':=R.loc w w' (fun b hb=>Below.block hx b (R.lt w b h hb)) h
theorem St.later (h:St w0 H w) (hx:Ext w w'):St w0 H w':=⟨h.ext.trans hx,fun R hR=>Res.later (h.holds R hR) hx,h.low,h.apart⟩
theorem St.push {R:Res} (h:St w0 H w) (hx:Ext w w') (hR:R.holds w') (hf:∀b,R.foot b→w.heap.size≤b):St w0 (R::H) w':=by
 have h':=h.later hx;refine ⟨h'.ext,fun S hS=>?_,fun S hS b hb=>?_,?_⟩
 ·rcases List.mem_cons.1 hS with rfl|hS
  ·exact hR
  ·exact h'.holds S hS
 ·rcases List.mem_cons.1 hS with rfl|hS
  ·exact Nat.le_trans h.ext.size (hf b hb)
  ·exact h'.low S hS b hb
 ·refine List.pairwise_cons.2 ⟨fun S hS b hb hb'=>?_,h'.apart⟩;have:=S.lt w b (h.holds S hS) hb';have:=hf b hb;omega
theorem St.sub {H':List Res} (h:St w0 H w) (hs:H'.Sublist H):St w0 H' w :=
 ⟨h.ext,fun R hR=>h.holds R (hs.subset hR),fun R hR=>h.low R (hs.subset hR),h.apart.sublist hs⟩
theorem St.perm {H':List Res} (h:St w0 H w) (hp:H.Perm H'):St w0 H' w :=
 ⟨h.ext,fun R hR=>h.holds R (hp.mem_iff.2 hR),fun R hR=>h.low R (hp.mem_iff.2 hR),(hp.pairwise_iff (fun hxy b h1 h2=>hxy b h2 h1)).1 h.apart⟩
theorem St.drop1 {R:Res} (h:St w0 (R::H) w):St w0 H w:=h.sub (List.sublist_cons_self ..)
theorem St.upd {i:Nat} {R R':Res} (h:St w0 H w) (hi:H[i]? = some R) (hos:w'.os=w.os) (htp:w'.tape=w.tape) (hout:w'.output=w.output) (hsz:w.heap.size≤w'.heap.size)
  (hb:∀k,k<w.heap.size→¬R.foot k→w'.heap[k]? = w.heap[k]?) (hR':R'.holds w') (hf:∀k,R'.foot k→R.foot k∨w.heap.size≤k):St w0 (H.set i R') w':=by
 have hmem:R∈H:=List.mem_of_getElem? hi;have hilt:i<H.length:=(List.getElem?_eq_some_iff.1 hi).1;have other:∀j S,j≠i→H[j]? = some S→∀k,S.foot k→¬R.foot k:=by
  intro j S hj hS k hk hRk;have hjl:j<H.length:=(List.getElem?_eq_some_iff.1 hS).1;have e1:H[j]=S:=(List.getElem?_eq_some_iff.1 hS).2;have e2:H[i]=R:=(List.getElem?_eq_some_iff.1 hi).2;rcases Nat.lt_or_gt_of_ne hj with hlt|hgt
  ·have:=List.pairwise_iff_getElem.1 h.apart j i hjl hilt hlt;rw [e1,e2] at this;exact this k hk hRk
  ·have:=List.pairwise_iff_getElem.1 h.apart i j hilt hjl hgt;rw [e1,e2] at this;exact this k hRk hk
 have getset:∀S,S∈H.set i R'→S=R'∨∃j,j≠i∧H[j]? = some S:=by
  intro S hS;obtain ⟨j,hj⟩:=List.mem_iff_getElem?.1 hS
  by_cases hji:j=i
  ·subst hji;rw [List.getElem?_set_self hilt] at hj;exact .inl (by cases hj;rfl)
  ·rw [List.getElem?_set_ne (Ne.symm hji)] at hj;exact .inr ⟨j,hji,hj⟩
 refine ⟨?_,?_,?_,?_⟩
 ·refine ⟨hos.trans h.ext.os,htp.trans h.ext.tape,hout.trans h.ext.output,Nat.le_trans h.ext.size hsz,fun k hk=>?_⟩;have hk':k<w.heap.size:=Nat.lt_of_lt_of_le hk h.ext.size;exact (hb k hk' (fun hRk=>by have:=h.low R hmem k hRk;omega)).trans (Below.block h.ext k hk)
 ·intro S hS;rcases getset S hS with rfl|⟨j,hji,hj⟩
  ·exact hR'
  ·have hS':=h.holds S (List.mem_of_getElem? hj);exact S.loc w w' (fun k hk=>hb k (S.lt w k hS' hk) (other j S hji hj k hk)) hS'
 ·intro S hS k hk;rcases getset S hS with rfl|⟨j,hji,hj⟩
  ·rcases hf k hk with h1|h1
   ·exact h.low R hmem k h1
   ·exact Nat.le_trans h.ext.size h1
  ·exact h.low S (List.mem_of_getElem? hj) k hk
 ·rw [List.pairwise_iff_getElem];intro p q hp hq hpq k hk hk';have hp':p<H.length:=by simpa using hp
  have hq':q<H.length:=by simpa using hq
  have Rd:∀j S,j≠i→H[j]? = some S→S.foot k→R'.foot k→False:=by
   intro j S hji hj hSk hRk;rcases hf k hRk with h1|h1
   ·exact other j S hji hj k hSk h1
   ·have:=S.lt w k (h.holds S (List.mem_of_getElem? hj)) hSk;omega
  by_cases hpi:p=i
  ·subst hpi;have hqp:q≠p:=by omega
   rw [List.getElem_set_self] at hk;rw [List.getElem_set_ne (Ne.symm hqp)] at hk';exact Rd q H[q] hqp (List.getElem?_eq_getElem hq') hk' hk
  ·rw [List.getElem_set_ne (Ne.symm hpi)] at hk
   by_cases hqi:q=i
   ·subst hqi;rw [List.getElem_set_self] at hk';exact Rd p H[p] hpi (List.getElem?_eq_getElem hp') hk hk'
   ·rw [List.getElem_set_ne (Ne.symm hqi)] at hk';exact List.pairwise_iff_getElem.1 h.apart p q hp' hq' hpq k hk hk'
theorem St.cell {i j b:Nat} {t:TypeId} {cs:Array Value} {v:Value} (h:St w0 H w) (hi:H[i]? = some (blk b t cs)) (hj:cs[j]? = some v):w.cell? ⟨b,j,none⟩=some v:=by
 have:Blk w b t cs:=h.holds _ (List.mem_of_getElem? hi);rw [cell_of_row w b j cs t (0,0) this];exact hj
theorem St.blk {i b:Nat} {t:TypeId} {cs:Array Value} (h:St w0 H w) (hi:H[i]? = some (blk b t cs)):Blk w b t cs:=h.holds _ (List.mem_of_getElem? hi)
end
def Sl (w:World) (sz:Nat) (v:Value) (n:Nat) (xs:List Value):Prop :=
 ∃ad cap,v=.slice ad n cap∧xs.length=n*sz∧n≤cap∧cap≤maxLen∧(0<n→∃a:Addr,ad=some a∧a.block<w.heap.size∧∀j u,xs[j]? = some u→w.cell? (a.add j)=some u)
section
variable {P:Program} {w w':World} {sz n:Nat} {v:Value} {xs:List Value}
theorem Sl.nil (w:World) (sz:Nat):Sl w sz (.slice none 0 0) 0 []:=⟨none,0,rfl,by simp,Nat.le_refl _,by simp [maxLen],fun h=>by omega⟩
theorem Sl.of_own {e:TypeId} (h:w.ownsRow 0 e sz v n xs):Sl w sz v n xs:=by
 rcases h.2 with ⟨rfl,rfl⟩|⟨g,cap,cur,rfl,_,hg,hnc,hcm,_,_⟩
 ·exact ⟨none,0,rfl,h.1,Nat.le_refl _,by simp [maxLen],fun h=>by omega⟩
 ·exact ⟨_,cap,rfl,h.1,hnc,hcm,fun _=>⟨⟨g,0,none⟩,rfl,(Array.getElem?_eq_some_iff.1 hg).1,h.cells (g:=g) rfl⟩⟩
theorem Jb (p:Addr) (i j:Nat):(p.add i).add j=p.add (i+j):=by
 unfold Addr.add
 by_cases hi:i=0<;>by_cases hj:j=0<;>simp [hi,hj,Nat.add_assoc]
theorem Hv (p:Addr) (i:Nat):(p.add i).block=p.block:=by unfold Addr.add;split<;>rfl
def Eo (P:Program) (t sz:Nat):Bool :=
 match P.underlying t with
 | some (.slice e)=>match P.info? e with|some i=>Nat.beq i.size sz|none=>false
 | _=>false
theorem G8 {t sz:Nat} (h:Eo P t sz=true):∃e i,P.underlying t=some (.slice e)∧P.info? e=some i∧i.size=sz:=by
 unfold Eo at h
 split at h
 ·rename_i e he
  cases hi:P.info? e with
  | none=>rw [hi] at h;simp at h
  | some i=>rw [hi] at h;exact ⟨e,i,he,hi,by simpa using h⟩
 ·simp at h
theorem Sl.at {t:Nat} {i:Int} (h:Sl w sz v n xs) (ht:Eo P t sz=true) (h0:0≤i) (hi:i<n) :
  ∃p:Addr,(∀w',(Instr.indexAt t v (.int .i64 i)).run P w'=.ok (.pointer (some p)) w')∧p.block<w.heap.size∧∀j u,xs[i.toNat*sz+j]? = some u→w.cell? (p.add j)=some u:=by
 obtain ⟨ad,cap,rfl,h2,h3,h4,h5⟩:=h;obtain ⟨a,rfl,h7,h8⟩:=h5 (by omega);obtain ⟨e,inf,hu,hinf,hs⟩:=G8 ht;refine ⟨a.add (i.toNat*sz),fun w'=>?_,by rw [Hv];exact h7,fun j u hu=>?_⟩
 ·simp [Instr.indexAt,asIntOf,run_underlying hu,sizeOf,typeInfo,hinf,hs,h0,hi]
 ·rw [Jb];exact h8 _ u hu
theorem Aa {T:World→World→Prop} {D:World→Prop}:Obs P T D []:=trivial
theorem Gg {T:World→World→Prop} {D:World→Prop} {o:Ob} {l:List Ob} (h:Ob.ok P T D o) (k:Obs P T D l):Obs P T D (o::l):=⟨h,k⟩
def Ea (P:Program) (t:Nat):Option Nat:=(pureSem P (isAgg t)).bind fun b=>bif b then pureSem P (sizeOf t) else none
def Eh (P:Program) (t:Nat):Bool:=match pureSem P (isAgg t) with|some b=>!b|none=>false
theorem Fj {t:Nat} {p:Addr} {u:Value} (ht:Eh P t=true) (h:w.cell? p=some u):(Instr.loadAt t (.pointer (some p))).run P w=.ok u w:=by
 unfold Eh at ht
 cases hp:pureSem P (isAgg t) with
 | none=>rw [hp] at ht;simp at ht
 | some b =>
  rw [hp] at ht;have hb:b=false:=by simpa using ht
  subst hb;have:=Aq _ _ hp w;simp [Instr.loadAt,Instr.sureAddr,loadVar,this,run_load,h]
theorem Fk {t:Nat} {p:Addr} {cs:List Value} (ht:Ea P t=some cs.length) (h:∀j u,cs[j]? = some u→w.cell? (p.add j)=some u):(Instr.loadAt t (.pointer (some p))).run P w=.ok (.agg cs.toArray) w:=by
 unfold Ea at ht
 cases hp:pureSem P (isAgg t) with
 | none=>rw [hp] at ht;simp at ht
 | some b =>
  rw [hp] at ht
  cases b with
  | false=>simp at ht
  | true =>
   simp at ht;have h1:=Aq _ _ hp w;have h2:=Aq _ _ ht w;simp [Instr.loadAt,Instr.sureAddr,loadVar,h1,h2,run_loadCells_list (P:=P) w p cs h]
theorem ob1 {T:World→World→Prop} {D:World→Prop} {cs:List Cd} {t:Nat} {p:Addr} {u:Value} (ht:Eh P t=true) (h:∀w',D w'→w'.cell? p=some u):Ob.ok P T D (.run cs (Instr.loadAt t (.pointer (some p))) u) :=
 fun _ w' e=>Fj ht (h w' e)
theorem obN {T:World→World→Prop} {D:World→Prop} {cs:List Cd} {t:Nat} {p:Addr} {us:List Value} (ht:Ea P t=some us.length) (h:∀w',D w'→∀j u,us[j]? = some u→w'.cell? (p.add j)=some u):Ob.ok P T D (.run cs (Instr.loadAt t (.pointer (some p))) (.agg us.toArray)) :=
 fun _ w' e=>Fk ht (h w' e)
theorem St.at_ {w0:World} {H:List Res} (h:St w0 H w) (e:w'=w):St w0 H w':=e▸h
theorem Blk.cells {b:Nat} {t:TypeId} {cs:Array Value} {off:Nat} {us:List Value} (h:Blk w b t cs) (hs:(cs.toList.drop off).take us.length=us):∀j u,us[j]? = some u→w.cell? ((⟨b,off,none⟩:Addr).add j)=some u:=by
 intro j u hu;have e:(⟨b,off,none⟩:Addr).add j=⟨b,off+j,none⟩:=by unfold Addr.add;split<;>simp_all
 rw [e,cell_of_row w b (off+j) cs t (0,0) h];rw [←hs,List.getElem?_take] at hu
 split at hu
 ·rw [List.getElem?_drop] at hu;simpa using hu
 ·cases hu
end
def effSem (ρ:Operand→Value) (op:Op) (ty:TypeId):Option (Sem Value) :=
 match op with
 | .box t x=>some (Instr.box t (ρ x))
 | .alloc t=>some (Instr.alloc t true (.tuple #[]))
 | .buildSlice t len parts=>some (Instr.buildSlice t len (parts.map fun (i,x)=>(i,ρ x)))
 | .makeSlice t l c=>some (Instr.makeSlice t (ρ l) (ρ c))
 | .call { callee:=.builtin .append,args,argTypes }=>some (Builtin.append_ argTypes ty (args.map ρ))
 | _=>none
theorem T8 {P:Program} {ρ:Operand→Value} {o:Oper} {s:Sem Value} {v:Value} {w w':World} (h:effSem ρ o.op o.type=some s) (hr:s.run P w=.ok v w') :
  Bp o.op=true∧(execOp ρ o).run P w=.ok (.value v) w':=by
 unfold effSem at h;unfold execOp
 split at h<;>rename_i hop<;>simp only [Option.some.injEq,reduceCtorEq] at h<;>(try subst h)<;>rw [hop]<;>refine ⟨rfl,?_⟩<;>simp [hr,resolve,invoke,builtin]
def Lu (ops:Array Oper) (M:List (Nat×Value)) (g:Nat×Bool):Option Bool :=
 match dstAt ops g.1 with
 | some d=>match lookM M d with
  | some (.bool b)=>some (b==g.2)
  | _=>none
 | none=>none
def plainAt (ops:Array Oper) (k:Nat) (M:List (Nat×Value)):Option Oper :=
 match ops[k]? with
 | some o=>match o.guard with
  | none=>bif o.op.operands.toList.all (Bw (ofM M) [])&&Bp o.op then some o else none
  | some g=>match Lu ops M g with
   | some true=>bif o.op.operands.toList.all (Bw (ofM M) [])&&Bp o.op then some o else none
   | _=>none
 | none=>none
structure NextM (ops:Array Oper) (k:Nat) (M:List (Nat×Value)) (v:Value) (M':List (Nat×Value)):Prop where
 eq:M'.map (fun p=>lookM (match dstAt ops k with|some d=>(d,v)::M|none=>M) p.1)=M'.map (fun p=>some p.2)
section
variable {P:Program} {r:Option Nat} {ops:Array Oper} {Q:Exit→Act→World→Prop} {N:Nat} {ds:List Deferred} {M:List (Nat×Value)} {a:Act} {w w0:World} {H:List Res}
theorem Qd {g:Nat×Bool} {b:Bool} (h:Lu ops M g=some b) (hF:Fr N ds M a):(yielded ops a.tmps g.1==some g.2)=b:=by
 unfold Lu at h
 split at h
 ·rename_i d hd
  split at h
  ·rename_i c hl
   simp only [Option.some.injEq] at h;have hg:=hF.get hl;have hgd:a.tmps[d]? = some (.bool c):=by
    rw [Array.getD_eq_getD_getElem?] at hg
    cases ht:a.tmps[d]? with
    | none=>rw [ht] at hg;simp [undef] at hg
    | some v=>rw [ht] at hg;simp at hg;rw [hg]
   have:yielded ops a.tmps g.1=some c:=by
    unfold yielded;rw [show (ops[g.1]?).bind (·.dst)=some d from hd];simp [hgd]
   rw [this,←h];simp
  ·simp at h
 ·simp at h
theorem P3 {k:Nat} {o:Oper} (h:plainAt ops k M=some o):ops[k]? = some o∧(o.op.operands.toList.all (Bw (ofM M) [])&&Bp o.op)=true∧(o.guard=none∨∃g,o.guard=some g∧Lu ops M g=some true):=by
 unfold plainAt at h
 cases ho:ops[k]? with
 | none=>rw [ho] at h;simp at h
 | some o' =>
  rw [ho] at h;simp only at h
  cases hg:o'.guard with
  | some g =>
   rw [hg] at h;simp only at h
   split at h
   ·rename_i hgi
    cases hc:(o'.op.operands.toList.all (Bw (ofM M) [])&&Bp o'.op) with
    | false=>rw [hc] at h;simp at h
    | true=>rw [hc] at h;simp at h;subst h;exact ⟨rfl,hc,.inr ⟨g,hg,hgi⟩⟩
   ·simp at h
  | none =>
   rw [hg] at h;simp only at h
   cases hc:(o'.op.operands.toList.all (Bw (ofM M) [])&&Bp o'.op) with
   | false=>rw [hc] at h;simp at h
   | true=>rw [hc] at h;simp at h;subst h;exact ⟨rfl,hc,.inl hg⟩
theorem El {k:Nat} {o:Oper} (h:plainAt ops k M=some o) (hF:Fr N ds M a):ops[k]? = some o∧Region.wanted o (yielded ops a.tmps)=true∧o.semAt r a.eval=execOp (rhoE (ofM M)) o:=by
 obtain ⟨h1,hc,hg⟩:=P3 h;rw [Bool.and_eq_true,List.all_eq_true] at hc;refine ⟨h1,?_,?_⟩
 ·rcases hg with hg|⟨g,hg,hgi⟩
  ·simp [Region.wanted,hg]
  ·have:=Qd hgi hF
   simpa [Region.wanted,hg] using this
 ·rw [Dv hc.2];refine execOp_congr o (fun cs b hh=>by have:=hc.2;rw [hh] at this;simp [Bp] at this) ?_;intro x hx;refine Da (cur:=[]) (Q5 M) (fun c hc=>by simp at hc) rfl (hc.1 x (by simpa using hx)) ?_;intro t _ e he;obtain ⟨h1,h2⟩:=Kq he;have:=hF.slot _ h2;simp only at this;rw [this];simp [En.val,h1,Ak]
theorem G4 {k:Nat} {o:Oper} {v:Value} {M':List (Nat×Value)} (ho:ops[k]? = some o) (hdst:Al ops N=true) (hF:Fr N ds M a) (h:NextM ops k M v M'):Fr N ds M' (a.put o.dst v):=by
 refine ⟨by rw [Ex];exact hF.size,by rw [Dq];exact hF.defers,fun p hp=>?_⟩;have hl:=List.map_inj_left.1 h.eq p hp;have hd:dstAt ops k=o.dst:=by simp [dstAt,ho]
 rw [hd] at hl
 cases hod:o.dst with
 | none=>rw [hod] at hl;exact hF.get hl
 | some d =>
  rw [hod] at hl;simp only [lookM] at hl
  cases hb:Nat.beq d p.1 with
  | true =>
   rw [hb] at hl;simp at hl;rw [Nat.beq_eq] at hb;rw [←hb,←hl];exact Fq (by rw [hF.size];exact D3 hdst ho hod)
  | false =>
   rw [hb] at hl;simp at hl;have hne:(some d:Option Tmp)≠some p.1:=fun e=>by cases e;simp at hb
   rw [Du hne];exact hF.get hl
structure EffAt (ops:Array Oper) (k:Nat) (M:List (Nat×Value)) (s:Sem Value):Prop where
 eq:((plainAt ops k M).bind fun o=>effSem (rhoE (ofM M)) o.op o.type)=some s
theorem Es (w:World) (o:Obj):Ext w { w with heap:=w.heap.push o }:=(Below.refl _ w).alloc (Nat.le_refl _) o
theorem Q3 (w:World) (t:TypeId) (cs:Array Value):(blk w.heap.size t cs).holds { w with heap:=w.heap.push (.cells cs t) }:=by
 show ({ w with heap:=w.heap.push (.cells cs t) }:World).heap[w.heap.size]? = _;simp
structure StoreAt (ops:Array Oper) (k:Nat) (M:List (Nat×Value)) (t:TypeId) (p v:Value):Prop where
 eq:((plainAt ops k M).bind fun o=>match o.op with|.store t x y=>some (t,rhoE (ofM M) x,rhoE (ofM M) y)|_=>none)=some (t,p,v)
def Nm (cs:Array Value) (off:Nat) (us:List Value):Array Value:=(cs.toList.take off++us++cs.toList.drop (off+us.length)).toArray
structure CallAt (P:Program) (ops:Array Oper) (k:Nat) (M:List (Nat×Value)) (f:FuncId) (args:Array Value):Prop where
 eq:((plainAt ops k M).bind fun o=>match pureSem P (execOp (rhoE (ofM M)) o) with|some (.enter f args)=>some (f,args)|_=>none)=some (f,args)
end
end Go.Eng
namespace Go.Eng
open Go Go.RowKit
theorem wrap64 {x:Int} (h:-9223372036854775808≤x∧x≤9223372036854775807):IntKind.i64.wrap x=x:=by
 have hb:IntKind.i64.bits=64:=rfl;have hs:IntKind.i64.signed=true:=rfl;simp only [IntKind.wrap,hb,hs]
 by_cases h0:0≤x
 ·have e:x%2 ^ 64=x:=Int.emod_eq_of_lt h0 (by omega);rw [e];rw [if_neg];simp;omega
 ·have e:x%2 ^ 64=x+2 ^ 64:=by
   rw [←Int.add_emod_right];exact Int.emod_eq_of_lt (by omega) (by omega)
  rw [e];rw [if_pos]
  ·omega
  ·simp;omega
section
variable {P:Program} {T:World→World→Prop} {D:World→Prop} {w:World} {cs:List Cd} {t:TypeId} {x y:Int}
theorem A1o (h:-9223372036854775808≤x+y∧x+y≤9223372036854775807):Ob.ok P T D (.run cs (binOp .add t (.int .i64 x) (.int .i64 y)) (.int .i64 (x+y))) :=
 fun _ w' _=>by simp [binOp,Op.intArith,wrap64 h]
theorem A1r (h:-9223372036854775808≤x-y∧x-y≤9223372036854775807):Ob.ok P T D (.run cs (binOp .sub t (.int .i64 x) (.int .i64 y)) (.int .i64 (x-y))) :=
 fun _ w' _=>by simp [binOp,Op.intArith,wrap64 h]
theorem A0s (h:y≠0):Ob.ok P T D (.run cs (binOp .rem t (.int .i64 x) (.int .i64 y)) (.int .i64 (x.tmod y))) :=
 fun _ w' _=>by simp [binOp,Op.intDiv,h]
theorem A0q (h:y≠0):Ob.ok P T D (.run cs (binOp .quo t (.int .i64 x) (.int .i64 y)) (.int .i64 (IntKind.i64.wrap (x.tdiv y)))) :=
 fun _ w' _=>by simp [binOp,Op.intDiv,h]
theorem obC {s:Sem Value} {v:Value} (h:Ak cs=true→Ob.ok P T D (.run cs s v)):Ob.ok P T D (.run cs s v):=fun hk=>h hk hk
theorem A7 {s:Sem Value} {v:Value} (h:pureSem P s=some v):Ob.ok P T D (.run cs s v):=fun _ w' _=>Aq _ _ h w'
theorem A0l {src dst:TypeId} {k:IntKind} (hs:(P.underlying src).isSome=true) (hd:P.underlying dst=some (.int .i64)) (h:-9223372036854775808≤x∧x≤9223372036854775807) :
  Ob.ok P T D (.run cs (convert src dst (.int k x)) (.int .i64 x)):=fun _ w' _=>by
 cases hu:P.underlying src with
 | none=>rw [hu] at hs;simp at hs
 | some d =>
  have e1:=run_underlying hu w';have e2:=run_underlying hd w';unfold convert;rw [Sem.run_bind,e1,Result.andThen_ok,Sem.run_bind,e2,Result.andThen_ok]
  cases d<;>simp [Conv.intToInt,wrap64 h]
end
theorem C2 {α:Type} {f:α→List Value} {sz:Nat} (hf:∀x,(f x).length=sz):∀(l:List α) (i j:Nat) (x:α),l[i]? = some x→j<sz→(l.flatMap f)[i*sz+j]? = (f x)[j]?:=by
 intro l
 induction l with
 | nil=>intro i j x h _;simp at h
 | cons y l ih =>
  intro i j x h hj;rw [List.flatMap_cons]
  cases i with
  | zero =>
   simp at h;subst h;rw [Nat.zero_mul,Nat.zero_add,List.getElem?_append_left (by rw [hf];exact hj)]
  | succ i =>
   have hle:(f y).length≤(i+1)*sz+j:=by rw [hf,Nat.add_mul];omega
   rw [List.getElem?_append_right hle,hf];have:(i+1)*sz+j-sz=i*sz+j:=by rw [Nat.add_mul];omega
   rw [this];exact ih i j x (by simpa using h) hj
theorem C6 {α:Type} {f:α→List Value} {sz:Nat} (hf:∀x,(f x).length=sz) (l:List α):(l.flatMap f).length=l.length*sz:=by
 induction l with
 | nil=>simp
 | cons y l ih=>rw [List.flatMap_cons,List.length_append,hf,ih,List.length_cons,Nat.add_mul];omega
def fI (x:Int):List Value:=[.int .i64 x]
theorem B6 (x:Int):(fI x).length=1:=rfl
def D2 (P:Program) (t len:Nat) (parts:Array (Nat×Value)):Option (TypeId×Array Value) :=
 match P.underlying t with
 | some (.slice e) =>
  match P.info? e with
  | some i =>
   match i.zero with
   | some z=>bif Nat.ble (len*i.size) 16777216 then (Instr.fill (fun k=>some (k*i.size,i.size)) ((Array.range (len*i.size)).map (z.cells[·%z.cells.size]!)) parts.toList).map fun cs=>(e,cs) else none
   | none=>none
  | none=>none
 | _=>none
section
variable {P:Program} {r:Option Nat} {ops:Array Oper} {Q:Exit→Act→World→Prop} {N:Nat} {ds:List Deferred} {M:List (Nat×Value)} {a:Act} {w w0:World} {H:List Res}
theorem Gl {t len:Nat} {parts:Array (Nat×Value)} {e:TypeId} {cs:Array Value} (h:D2 P t len parts=some (e,cs)) :
  (Instr.buildSlice t len parts).run P w=.ok (.slice (some ⟨w.heap.size,0,none⟩) len len) { w with heap:=w.heap.push (.cells cs e) }:=by
 unfold D2 at h
 cases hu:P.underlying t with
 | none=>rw [hu] at h;simp at h
 | some d =>
  rw [hu] at h
  cases d<;>simp only at h<;>try (simp at h;done)
  rename_i e'
  cases hi:P.info? e' with
  | none=>rw [hi] at h;simp at h
  | some i =>
   rw [hi] at h;simp only at h
   cases hz:i.zero with
   | none=>rw [hz] at h;simp at h
   | some z =>
    rw [hz] at h;simp only at h
    cases hb:Nat.ble (len*i.size) 16777216 with
    | false=>rw [hb] at h;simp at h
    | true =>
     rw [hb] at h;simp only [cond_true,Option.map_eq_some_iff] at h;obtain ⟨cs',hfill,he⟩:=h
     cases he
     have hle:=Nat.le_of_ble_eq_true hb;have hng:¬(len*i.size>2 ^ 24):=by
      have:(2:Nat) ^ 24=16777216:=by decide
      omega
     unfold Instr.buildSlice;rw [Sem.run_bind,run_underlying hu w,Result.andThen_ok]
     by_cases h0:len*i.size=0
     ·have hr0:Array.range 0=#[]:=rfl;rw [h0,hr0] at hfill;simp only [Array.map_empty] at hfill;simp [sizeOf,typeInfo,hi,h0,newRow,hr0,hfill]
     ·simp [sizeOf,typeInfo,zeroValue,hi,hz,hng,h0,newRow,hfill]
theorem U0 {b n sz:Nat} {e:TypeId} {cs:Array Value} (h:Blk w b e cs) (hs:cs.size=n*sz) (hn:n≤maxLen):w.ownsRow 0 e sz (.slice (some ⟨b,0,none⟩) n n) n cs.toList :=
 ⟨by simpa using hs,.inr ⟨b,n,cs,rfl,Nat.zero_le _,h,Nat.le_refl _,hn,hs,List.take_of_length_le (by rw [Array.length_toList,hs];exact Nat.le_refl _)⟩⟩
theorem St.conv {R R':Res} (h:St w0 (R::H) w) (hR:R'.holds w) (hf:∀b,R'.foot b→R.foot b):St w0 (R'::H) w :=
 ⟨h.ext,fun S hS=>by
  rcases List.mem_cons.1 hS with rfl|hS
  ·exact hR
  ·exact h.holds S (List.mem_cons_of_mem _ hS),fun S hS b hb=>by
  rcases List.mem_cons.1 hS with rfl|hS
  ·exact h.low R (List.mem_cons_self ..) b (hf b hb)
  ·exact h.low S (List.mem_cons_of_mem _ hS) b hb,List.pairwise_cons.2 ⟨fun S hS b hb=>(List.pairwise_cons.1 h.apart).1 S hS b (hf b hb),(List.pairwise_cons.1 h.apart).2⟩⟩
def Ed (P:Program) (t e size bytes:Nat):Bool :=
 match P.underlying t with
 | some (.slice e')=>Nat.beq e e'&&(match P.info? e with
  | some i=>Nat.beq i.size size&&Nat.beq i.bytes bytes&&Nat.blt 0 size&&(match i.zero with|some z=>Nat.beq z.cells.size size|none=>false)
  | none=>false)
 | _=>false
theorem Ep {t e size bytes:Nat} (h:Ed P t e size bytes=true):∃i z,P.underlying t=some (.slice e)∧P.info? e=some i∧i.zero=some z∧i.size=size∧i.bytes=bytes∧z.cells.size=size∧0<size:=by
 unfold Ed at h
 split at h
 ·rename_i e' hu
  rw [Bool.and_eq_true,Nat.beq_eq] at h;obtain ⟨rfl,h⟩:=h
  cases hi:P.info? e with
  | none=>rw [hi] at h;simp at h
  | some i =>
   rw [hi] at h;simp only [Bool.and_eq_true,Nat.beq_eq,Nat.blt_eq] at h;obtain ⟨⟨⟨h1,h2⟩,h3⟩,h4⟩:=h
   cases hz:i.zero with
   | none=>rw [hz] at h4;simp at h4
   | some z=>rw [hz] at h4;exact ⟨i,z,hu,hi▸rfl,hz,h1,h2,by simpa using h4,h3⟩
 ·simp at h
theorem Za {t ty e size bytes:Nat} (hty:Ed P t e size bytes=true) {v src:Value} {n m:Nat} {xs news:List Value} (hown:w.ownsRow 0 e size v n xs) (hsrc:Sl w size src m news) (h1:∀u∈news,u.oneCell'=true)
  (hb:(n+m)*bytes≤140737488355328) (h63:n+m≤maxLen) :
  ∃ad cap w',(Builtin.append_ #[t,t] ty #[v,src]).run P w=.ok (.slice ad (n+m) cap) w'∧w'.ownsRow 0 e size (.slice ad (n+m) cap) (n+m) (xs++news)∧w.grownBy w' v.ownBlock ∧
   (∀k,(Value.slice ad (n+m) cap).ownBlock=some k→v.ownBlock=some k∨w.heap.size≤k):=by
 obtain ⟨i,z,ht,hi,hz,rfl,rfl,hzs,hsz⟩:=Ep hty;obtain ⟨sad,scap,rfl,hl,hsc,_,hcell⟩:=hsrc;have hsmall:n+m≤9223372036854775807:=by simp only [maxLen] at h63;omega
 by_cases hm:m=0
 ·subst hm;have hn:news=[]:=List.eq_nil_of_length_eq_zero (by simpa using hl);subst hn;have hfc:(Builtin.firstCells i.size 0 (.slice sad 0 scap)).run P w=.ok #[] w:=by cases sad<;>simp [Builtin.firstCells,loadCells,loadCellsFrom]
  rcases hown.2 with ⟨rfl,rfl⟩|⟨g,cap,cur,rfl,hbg,hg,hnc,hcm,hcs,htake⟩
  ·refine ⟨none,0,w,?_,by simpa using hown,⟨rfl,rfl,rfl,Nat.le_refl _,fun _ _ _=>rfl⟩,fun k hk=>.inl hk⟩;simp [Builtin.append_,run_underlying ht,sizeOf,typeInfo,hi,Builtin.lenOf,hfc]
  ·refine ⟨some ⟨g,0,none⟩,cap,w,?_,by simpa using hown,⟨rfl,rfl,rfl,Nat.le_refl _,fun _ _ _=>rfl⟩,fun k hk=>.inl hk⟩;simp [Builtin.append_,run_underlying ht,sizeOf,typeInfo,hi,Builtin.lenOf,hnc,hfc,storeCells]
 ·obtain ⟨sa,rfl,_,hnews⟩:=hcell (by omega);have hlen:(xs++news).length=(n+m)*i.size:=by rw [List.length_append,hown.1,hl,Nat.add_mul]
  have grown:∀(old:Nat),old<n+m →
    (w.drew.alloc (.cells (xs.toArray++news.toArray++Builtin.zeroCells z.cells (grownCap w (n+m) old e-(n+m))) e)).ownsRow 0 e i.size
     (.slice (some ⟨w.heap.size,0,none⟩) (n+m) (grownCap w (n+m) old e)) (n+m) (xs++news) ∧
    ∀row,w.grownBy (w.drew.alloc (.cells (xs.toArray++news.toArray++Builtin.zeroCells z.cells (grownCap w (n+m) old e-(n+m))) e)) row:=by
   intro old ho;have hge:=grownCap_ge w (n+m) old e;have hcm:grownCap w (n+m) old e≤maxLen:=grownCap_le_maxLen w (n+m) old e h63;refine ⟨⟨hlen,.inr ⟨w.heap.size,_,_,rfl,Nat.zero_le _,heap_alloc_new w.drew _,hge,hcm,?_,?_⟩⟩,fun row=>⟨rfl,rfl,rfl,by simp,fun k hk _=>heap_alloc_old w.drew _ k hk⟩⟩
   ·simp only [Array.size_append,List.size_toArray,size_zeroCells,hzs,hown.1,hl,←Nat.add_mul]
    congr 1
    omega
   ·simp only [Array.toList_append,List.append_assoc];rw [←List.append_assoc,←hlen];exact List.take_left
  rcases hown.2 with ⟨rfl,rfl⟩|⟨g,cap,cur,rfl,hbg,hg,hnc,hcm,hcs,htake⟩
  ·have hx:xs=[]:=List.eq_nil_of_length_eq_zero (by simpa using hown.1);subst hx;have hr:=run_append_nil (P:=P) w t ty e i z ht hi hz sa m scap news hl hnews (by omega) (by omega) (by simp only [Nat.zero_add] at hb;omega);have hgr:=grown 0 (by omega);simp only [Nat.zero_add,List.nil_append,Array.empty_append] at hgr ⊢;exact ⟨_,_,_,hr,hgr.1,hgr.2 _,fun k hk=>.inr (by simp [Value.ownBlock] at hk;omega)⟩
  ·by_cases hroom:n+m≤cap
   ·have hfit:n*i.size+news.length≤cur.size:=by rw [hl,hcs,←Nat.add_mul];exact Nat.mul_le_mul_right _ hroom
    have hr:=run_append_room (P:=P) (ty:=ty) w t e i ht hi g n cap cur hg sa m scap news hl hnews h1 hroom hfit;refine ⟨_,_,_,hr,⟨hlen,.inr ⟨g,cap,_,rfl,hbg,setRow_heap w g cur _ e _ hg,hroom,hcm,?_,?_⟩⟩,⟨rfl,rfl,rfl,by simp,fun k _ hk=>setRow_other w g k _ (fun e=>hk (by simp [Value.ownBlock,e]))⟩,fun k hk=>.inl hk⟩
    ·simp only [List.size_toArray,List.length_append,List.length_take,List.length_drop,Array.length_toList];omega
    ·rw [htake,←hlen];exact List.take_left
   ·have holds:∀j u,xs[j]? = some u→w.cell? ((⟨g,0,none⟩:Addr).add j)=some u:=hown.cells (g:=g) rfl;have hr:=run_append_grow (P:=P) w t ty e i z ht hi hz ⟨g,0,none⟩ n cap xs hown.1 holds sa m scap news hl hnews (by omega) (by omega) (growslice_fits (by omega) hb);have hgr:=grown cap (by omega);exact ⟨_,_,_,hr,hgr.1,hgr.2 _,fun k hk=>.inr (by simp [Value.ownBlock] at hk;omega)⟩
end
end Go.Eng
