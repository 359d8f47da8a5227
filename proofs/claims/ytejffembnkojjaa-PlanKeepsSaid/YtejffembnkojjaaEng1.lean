/- The engine, part 1: regions in whatever order, segments of operations, frames known slot by slot. No program in sight. -/
import Derived.OrdersIn
import Derived.RangeFuncIn
import Derived.Below
import Derived.Laws.AppendOwn
import Derived.KernelRfl
namespace Go.Eng
open Go Go.RowKit

/-- Everything that lay in w lies in w' as it was. -/
abbrev Ext (w w' : World) : Prop := Below w.heap.size w w'
theorem Ext.refl (w : World) : Ext w w := Below.refl _ _
theorem Ext.trans {a b c : World} (h : Ext a b) (k : Ext b c) : Ext a c := Below.trans h (Below.mono k h.size)
theorem Ext.block {w w' : World} (h : Ext w w') {k : Nat} {o : Obj} (hk : w.heap[k]? = some o) : w'.heap[k]? = some o :=
  (Below.block h k (Array.getElem?_eq_some_iff.1 hk).1).trans hk
theorem Ext.cell {w w' : World} (h : Ext w w') {p : Addr} {v : Value} (hc : w.cell? p = some v) : w'.cell? p = some v :=
  (Below.cell h (World.block_lt_of_cell? w p hc)).trans hc

def F0 (r : Option Nat) : Fence := { Fence.wide with round := r }
theorem fenced_F0 (P : Program) (r : Option Nat) (m : Machine) : m.fenced P (F0 r) := by
  intro g _
  refine ⟨fun h => ?_, Or.inl trivial, fun _ _ => trivial, fun _ h => ?_⟩
  · simp [F0, Fence.wide] at h
  · simp [F0, Fence.wide] at h
theorem room_F0 (r : Option Nat) (n : Nat) : (F0 r).room n := fun _ h => by simp [F0, Fence.wide] at h
theorem steps_F0 {P : Program} {r : Option Nat} {m m' : Machine} : StepsIn (Machine.fenced P (F0 r)) P m m' ↔ Steps P m m' :=
  ⟨StepsIn.steps, fun h => (StepsIn.of_steps h).mono fun m _ => fenced_F0 P r m⟩
theorem comes_F0 {P : Program} {r : Option Nat} {m m' : Machine} {e : Ending} : ComesIn (Machine.fenced P (F0 r)) P m m' e ↔ Comes P m m' e := by
  cases e with
  | returned v => exact steps_F0
  | panicked chain => exact steps_F0
  | outgrown => exact Iff.rfl
theorem callsIn_F0 {r : Option Nat} {n : Nat} {P : Program} {f : FuncId} {args : Array Value} {w : World} {R : Ending → World → Prop} :
    CallsIn (F0 r) n P f args w R ↔ Calls P f args w R :=
  ⟨fun h cs => let ⟨e, w', fr, q, s, x⟩ := h.2 cs (room_F0 _ _); ⟨e, w', fr, q, comes_F0.1 s, x⟩,
   fun h => ⟨trivial, fun cs _ => let ⟨e, w', fr, q, s, x⟩ := h cs; ⟨e, w', fr, q, comes_F0.2 s, x⟩⟩⟩

abbrev WP (P : Program) (r : Option Nat) (c : Code) (Q : Exit → Act → World → Prop) (a : Act) (w : World) : Prop := c.wpIn (F0 r) 0 P Q a w

/-- The operations of a region from number k on, in the text's order. -/
def WI (P : Program) (r : Option Nat) (ops : Array Oper) (Q : Exit → Act → World → Prop) (k : Nat) (a : Act) (w : World) : Prop :=
  wpOpsIn (F0 r) 0 P ops Q (List.range' k (ops.size - k)) a w

/-- One operation yields a value: at once, or out of a call that returns. -/
def OpR (P : Program) (r : Option Nat) (o : Oper) (a : Act) (w : World) (R : Value → World → Prop) : Prop :=
  match (o.semAt r a.eval).run P w with
  | .ok (.value v) w' => R v w'
  | .ok .skip w' => R undef w'
  | .ok (.enter f args) w' => Calls P f args w' (fun e w'' => ∃ v, e = .returned v ∧ R v w'')
  | _ => False
def OpG (P : Program) (r : Option Nat) (ops : Array Oper) (o : Oper) (a : Act) (w : World) (R : Value → World → Prop) : Prop :=
  if Region.wanted o (yielded ops a.tmps) then OpR P r o a w R else R undef w
section
variable {P : Program} {r : Option Nat} {ops : Array Oper} {Q : Exit → Act → World → Prop} {a : Act} {w : World}
theorem OpR.wpIn {o : Oper} {R : Value → World → Prop} {K : Act → World → Prop} (h : OpR P r o a w R) (hk : ∀ v w', R v w' → K (a.put o.dst v) w') :
    o.wpIn (F0 r) 0 P a w K Q := by
  refine ⟨fun _ _ => trivial, ?_⟩
  unfold OpR at h
  change o.uponIn (F0 r) 0 P a K Q ((o.semAt r a.eval).run P w)
  generalize (o.semAt r a.eval).run P w = res at *
  cases res with
  | ok x w' =>
    cases x <;> simp only [Oper.uponIn] at h ⊢ <;> first | exact hk _ _ h | exact h.elim | skip
    case enter f args =>
      refine ⟨fun h => by simp [F0, Fence.wide] at h, callsIn_F0.2 ?_⟩
      refine Calls.mono h ?_
      rintro e w'' ⟨v, rfl, hr⟩
      exact hk _ _ hr
  | halt x w' => simp only at h
theorem OpG.wpOpIn {o : Oper} {i : Nat} {R : Value → World → Prop} {K : Act → World → Prop} (ho : ops[i]? = some o) (h : OpG P r ops o a w R)
    (hk : ∀ v w', R v w' → K (a.put o.dst v) w') : wpOpIn (F0 r) 0 P ops Q i K a w := by
  unfold Go.wpOpIn OpG at *
  rw [ho]
  simp only
  split
  · rename_i hw
    rw [if_pos hw] at h
    exact OpR.wpIn h hk
  · rename_i hw
    rw [if_neg hw] at h
    exact ⟨fun _ _ => trivial, hk _ _ h⟩
theorem WI.nil (h : Q .normal a w) : WI P r ops Q ops.size a w := by
  simpa [WI, wpOpsIn] using h
theorem WI.cons {i : Nat} {o : Oper} {R : Value → World → Prop} (ho : ops[i]? = some o) (h : OpG P r ops o a w R)
    (hk : ∀ v w', R v w' → WI P r ops Q (i + 1) (a.put o.dst v) w') : WI P r ops Q i a w := by
  have hi : i < ops.size := (Array.getElem?_eq_some_iff.1 ho).1
  have e : List.range' i (ops.size - i) = i :: List.range' (i + 1) (ops.size - (i + 1)) := by
    rw [show ops.size - i = (ops.size - (i + 1)) + 1 by omega, List.range'_succ]
  unfold WI
  rw [e, wpOpsIn_cons]
  exact h.wpOpIn ho hk
theorem WI.region {id : Nat} (h : WI P r ops Q 0 a w) : WP P r (.region id ops false) Q a w :=
  wpIn_region (by rw [List.range_eq_range']; exact h)
theorem OpR.mono {o : Oper} {R R' : Value → World → Prop} (h : OpR P r o a w R) (hr : ∀ v w', R v w' → R' v w') : OpR P r o a w R' := by
  unfold OpR at *
  generalize (o.semAt r a.eval).run P w = res at *
  cases res with
  | ok x w' =>
    cases x <;> simp only at h ⊢ <;> first | exact hr _ _ h | exact h.elim | skip
    case enter f args => exact Calls.mono h (fun e w'' ⟨v, e1, e2⟩ => ⟨v, e1, hr _ _ e2⟩)
  | halt x w' => simp only at h
theorem OpG.mono {o : Oper} {R R' : Value → World → Prop} (h : OpG P r ops o a w R) (hr : ∀ v w', R v w' → R' v w') : OpG P r ops o a w R' := by
  unfold OpG at *
  split
  · rename_i hw; rw [if_pos hw] at h; exact h.mono hr
  · rename_i hw; rw [if_neg hw] at h; exact hr _ _ h
end

/-! ### Which operation must come behind which -/
inductive Anc (ops : Array Oper) : Nat → Nat → Prop
  | one {i j : Nat} {o : Oper} {e : Edge} (ho : ops[i]? = some o) (he : e ∈ o.after) (hb : Region.binds .any e = true) (hj : e.on = j) : Anc ops j i
  | trans {i j k : Nat} (h : Anc ops j i) (h' : Anc ops k j) : Anc ops k i

def maskOf (acc : List Nat) (o : Oper) : Nat :=
  o.after.toList.foldl (fun s e => if Region.binds .any e && Nat.blt e.on acc.length then s ||| (2 ^ e.on ||| acc.getD e.on 0) else s) 0
def masks : List Oper → List Nat → List Nat
  | [], acc => acc
  | o :: l, acc => masks l (acc ++ [maskOf acc o])

theorem maskOf_spec {ops : Array Oper} {acc : List Nat} {o : Oper} (ho : ops[acc.length]? = some o)
    (hacc : ∀ k m, acc[k]? = some m → ∀ i, m.testBit i = true → Anc ops i k) : ∀ i, (maskOf acc o).testBit i = true → Anc ops i acc.length := by
  have key : ∀ (l : List Edge) (s : Nat), (∀ e ∈ l, e ∈ o.after) → (∀ i, s.testBit i = true → Anc ops i acc.length) →
      ∀ i, (l.foldl (fun s e => if Region.binds .any e && Nat.blt e.on acc.length then s ||| (2 ^ e.on ||| acc.getD e.on 0) else s) s).testBit i = true → Anc ops i acc.length := by
    intro l
    induction l with
    | nil => intro s _ hs i hi; exact hs i hi
    | cons e l ih =>
      intro s hl hs
      simp only [List.foldl_cons]
      refine ih _ (fun e' he' => hl e' (List.mem_cons_of_mem _ he')) ?_
      intro i hi
      split at hi
      · rename_i hc
        rw [Bool.and_eq_true] at hc
        rw [Nat.testBit_or, Nat.testBit_or, Bool.or_eq_true, Bool.or_eq_true] at hi
        rcases hi with hi | hi | hi
        · exact hs i hi
        · rw [Nat.testBit_two_pow] at hi
          have : e.on = i := by simpa using hi
          exact .one ho (hl e (List.mem_cons_self ..)) hc.1 this
        · have hlt : e.on < acc.length := by have := hc.2; simpa [Nat.blt_eq] using this
          have hg : acc[e.on]? = some (acc.getD e.on 0) := by rw [List.getD_eq_getElem?_getD, List.getElem?_eq_getElem hlt]; rfl
          exact .trans (.one ho (hl e (List.mem_cons_self ..)) hc.1 rfl) (hacc _ _ hg i hi)
      · exact hs i hi
  exact key o.after.toList 0 (fun e he => by simpa using he) (fun i hi => by simp at hi)
theorem masks_spec {ops : Array Oper} : ∀ (l : List Oper) (acc : List Nat), (∀ j, l[j]? = ops[acc.length + j]?) →
    (∀ k m, acc[k]? = some m → ∀ i, m.testBit i = true → Anc ops i k) → ∀ k m, (masks l acc)[k]? = some m → ∀ i, m.testBit i = true → Anc ops i k := by
  intro l
  induction l with
  | nil => intro acc _ h; exact h
  | cons o l ih =>
    intro acc hl h
    have h0 : ops[acc.length]? = some o := by simpa using (hl 0).symm
    refine ih (acc ++ [maskOf acc o]) (fun j => ?_) ?_
    · have := hl (j + 1)
      simp only [List.getElem?_cons_succ] at this
      rw [this, List.length_append]; simp only [List.length_cons, List.length_nil]; congr 1; omega
    · intro k m hk i hi
      by_cases hlt : k < acc.length
      · rw [List.getElem?_append_left hlt] at hk; exact h k m hk i hi
      · rw [List.getElem?_append_right (by omega)] at hk
        have hk0 : k = acc.length := by
          by_cases e : k - acc.length = 0
          · omega
          · obtain ⟨q, hq⟩ : ∃ q, k - acc.length = q + 1 := ⟨k - acc.length - 1, by omega⟩
            rw [hq] at hk; simp at hk
        subst hk0
        simp at hk
        subst hk
        exact maskOf_spec h0 h i hi

/-- Any two operations that touch one slot, one of them writing it, stand in the text's order. -/
def ordPairs (ops : Array Oper) (ms : List Nat) : Nat → List Oper → Bool
  | _, [] => true
  | j, y :: l => (ops.toList.zipIdx.all fun p => !Nat.blt p.2 j || p.1.apart ops y || (ms.getD j 0).testBit p.2) && ordPairs ops ms (j + 1) l
def ordOk (ops : Array Oper) (m : Nat) : Bool := ordPairs ops (masks ops.toList []) 0 (ops.toList.take m)
/-- From number m on each one comes behind all that stand before it. -/
def tailOk (ops : Array Oper) (m : Nat) : Bool :=
  (List.range ops.size).all fun i => Nat.blt i m || (List.range i).all fun j => ((masks ops.toList []).getD i 0).testBit j
def edgesOk (ops : Array Oper) : Bool :=
  ops.toList.zipIdx.all fun p => p.1.after.all fun e => !Region.binds .any e || Nat.blt e.on p.2

theorem testBit_anc {ops : Array Oper} {i j : Nat} (h : ((masks ops.toList []).getD j 0).testBit i = true) : Anc ops i j := by
  rw [List.getD_eq_getElem?_getD] at h
  cases hk : (masks ops.toList [])[j]? with
  | none => rw [hk] at h; simp at h
  | some m =>
    rw [hk] at h
    exact masks_spec ops.toList [] (fun j => by simp) (fun k m hm => by simp at hm) j m hk i h
theorem ordPairs_spec {ops : Array Oper} {ms : List Nat} : ∀ (l : List Oper) (j0 : Nat), ordPairs ops ms j0 l = true →
    ∀ (i j : Nat) (x y : Oper), i < j0 + j → ops[i]? = some x → l[j]? = some y → x.apart ops y = true ∨ (ms.getD (j0 + j) 0).testBit i = true := by
  intro l
  induction l with
  | nil => intro j0 _ i j x y _ _ hy; simp at hy
  | cons z l ih =>
    intro j0 h i j x y hij hx hy
    rw [ordPairs, Bool.and_eq_true] at h
    cases j with
    | zero =>
      simp at hy
      subst hy
      have hz := h.1
      rw [List.all_eq_true] at hz
      have hmem : (x, i) ∈ ops.toList.zipIdx := by
        rw [List.mem_zipIdx_iff_getElem?]; simpa using hx
      have := hz _ hmem
      simp only [Bool.or_eq_true, Bool.not_eq_true'] at this
      rcases this with (h1 | h1) | h1
      · have : ¬ i < j0 := by intro hlt; rw [← Nat.blt_eq, h1] at hlt; cases hlt
        omega
      · exact .inl h1
      · exact .inr h1
    | succ j =>
      have := ih (j0 + 1) h.2 i j x y (by omega) hx (by simpa using hy)
      rwa [show j0 + 1 + j = j0 + (j + 1) by omega] at this
theorem ordOk_spec {ops : Array Oper} {m : Nat} (h : ordOk ops m = true) {i j : Nat} {x y : Oper} (hij : i < j) (hj : j < m) (hx : ops[i]? = some x) (hy : ops[j]? = some y) :
    x.apart ops y = true ∨ Anc ops i j := by
  have := ordPairs_spec _ 0 h i j x y (by omega) hx (by rw [List.getElem?_take, if_pos hj]; simpa using hy)
  rw [Nat.zero_add] at this
  exact this.imp id testBit_anc
theorem tailOk_spec {ops : Array Oper} {m : Nat} (h : tailOk ops m = true) {i j : Nat} (hi : m ≤ i) (hn : i < ops.size) (hj : j < i) : Anc ops j i := by
  unfold tailOk at h
  rw [List.all_eq_true] at h
  have := h i (List.mem_range.2 hn)
  rw [Bool.or_eq_true] at this
  rcases this with h1 | h1
  · rw [Nat.blt_eq] at h1; omega
  · rw [List.all_eq_true] at h1
    exact testBit_anc (h1 j (List.mem_range.2 hj))
theorem edgesOk_spec {ops : Array Oper} (h : edgesOk ops = true) {i : Nat} {o : Oper} {e : Edge} (ho : ops[i]? = some o) (he : e ∈ o.after) (hb : Region.binds .any e = true) : e.on < i := by
  unfold edgesOk at h
  rw [List.all_eq_true] at h
  have hmem : (o, i) ∈ ops.toList.zipIdx := by rw [List.mem_zipIdx_iff_getElem?]; simpa using ho
  have := h _ hmem
  rw [Array.all_eq_true'] at this
  have := this e he
  simp only [hb, Bool.not_true, Bool.false_or] at this
  exact Nat.blt_eq.mp this
end Go.Eng
