/- The engine, part 12: operations of plain programs that may fail; memory that no longer changes. -/
import Derived.Test.YtbhjgebjojdohaaF8EE
import Derived.RecoverIn
import Derived.ProofKit
import Derived.OpenShut
import Derived.ChangeOld
import Derived.Carry
import Derived.DataElems
import Derived.Laws.StructEq
namespace Go.Eng
open Go Go.RowKit

/-! ### Plain operations -/
def ck (x : Int) : Option Int := if -9223372036854775808 ≤ x ∧ x ≤ 9223372036854775807 then some x else none
def quoC (x y : Int) : Option Int := if y = 0 then none else ck (x.tdiv y)
def remC (x y : Int) : Option Int := if y = 0 then none else some (x.tmod y)
def getI {α : Type} (l : List α) (i : Int) : Option α := if 0 ≤ i then l[i.toNat]? else none
def apd {α : Type} (B : Nat) (l k : List α) : Option (List α) := if (l.length + k.length) * B ≤ 140737488355328 ∧ l.length + k.length ≤ 9223372036854775807 then some (l ++ k) else none
/-- Under a guard. -/
def gd {α : Type} (g : Bool) (o : Option α) (d : α) : Option α := bif g then o else some d
theorem bindS {α β : Type} {o : Option α} {f : α → Option β} {r : β} (h : o.bind f = some r) : ∃ x, o = some x ∧ f x = some r := Option.bind_eq_some_iff.1 h
theorem gd_some {α : Type} {g : Bool} {o : Option α} {d x : α} (h : gd g o d = some x) (hg : g = true) : o = some x := by subst hg; exact h
theorem bif_t {α : Type} {c : Bool} {x y z : α} (h : (bif c then x else y) = z) (hc : c = true) : x = z := by subst hc; exact h
theorem bif_f {α : Type} {c : Bool} {x y z : α} (h : (bif c then x else y) = z) (hc : c = false) : y = z := by subst hc; exact h
theorem ck_some {x y : Int} (h : ck x = some y) : y = x ∧ -9223372036854775808 ≤ x ∧ x ≤ 9223372036854775807 := by
  unfold ck at h
  split at h
  · cases h; exact ⟨rfl, by assumption⟩
  · cases h
theorem getI_some {α : Type} {l : List α} {i : Int} {x : α} (h : getI l i = some x) : 0 ≤ i ∧ i < l.length ∧ l[i.toNat]? = some x := by
  unfold getI at h
  split at h
  · have := (List.getElem?_eq_some_iff.1 h).1
    exact ⟨by assumption, by omega, h⟩
  · cases h
section
variable {P : Program} {T : World → World → Prop} {D : World → Prop} {w w' : World} {cs : List Cd} {t : TypeId} {x y z : Int}
theorem obAddC (h : condsOk cs = true → ck (x + y) = some z) : Ob.ok P T D (.run cs (binOp .add t (.int .i64 x) (.int .i64 y)) (.int .i64 z)) :=
  obC fun hk => by obtain ⟨rfl, hb⟩ := ck_some (h hk); exact obAdd hb
theorem obSubC (h : condsOk cs = true → ck (x - y) = some z) : Ob.ok P T D (.run cs (binOp .sub t (.int .i64 x) (.int .i64 y)) (.int .i64 z)) :=
  obC fun hk => by obtain ⟨rfl, hb⟩ := ck_some (h hk); exact obSub hb
theorem obMulC (h : condsOk cs = true → ck (x * y) = some z) : Ob.ok P T D (.run cs (binOp .mul t (.int .i64 x) (.int .i64 y)) (.int .i64 z)) :=
  obC fun hk => by obtain ⟨rfl, hb⟩ := ck_some (h hk); exact obMul hb
theorem obQuoC (h : condsOk cs = true → quoC x y = some z) : Ob.ok P T D (.run cs (binOp .quo t (.int .i64 x) (.int .i64 y)) (.int .i64 z)) :=
  obC fun hk => by
    have h := h hk
    unfold quoC at h
    split at h
    · cases h
    · obtain ⟨rfl, hb⟩ := ck_some h
      have := obQuoT (P := P) (T := T) (D := D) (cs := cs) (t := t) (x := x) (y := y) (by assumption)
      rwa [Go.Eng.wrap64 hb] at this
theorem obRemC (h : condsOk cs = true → remC x y = some z) : Ob.ok P T D (.run cs (binOp .rem t (.int .i64 x) (.int .i64 y)) (.int .i64 z)) :=
  obC fun hk => by
    have h := h hk
    unfold remC at h
    split at h
    · cases h
    · cases h; exact obRemT (by assumption)
theorem obConvC {src dst : TypeId} {k : IntKind} (hs : (P.underlying src).isSome = true) (hd : P.underlying dst = some (.int .i64)) (h : condsOk cs = true → ck x = some z) :
    Ob.ok P T D (.run cs (convert src dst (.int k x)) (.int .i64 z)) := obC fun hk => by obtain ⟨rfl, hb⟩ := ck_some (h hk); exact obConv hs hd hb
variable {α : Type} {sz cap : Nat} {f : α → List Value} {ad : Option Addr} {l : List α}
theorem getD_of {i : Nat} {u d : α} (h : l[i]? = some u) : l.getD i d = u := by rw [List.getD_eq_getElem?_getD, h]; rfl
end

/-! ### Memory that no longer changes -/
abbrev Frz := Nat → Option Obj
def Frz.le (μ ν : Frz) : Prop := ∀ b o, μ b = some o → ν b = some o
def FrzAt (μ : Frz) (w : World) : Prop := ∀ b o, μ b = some o → w.heap[b]? = some o
def memOf (w : World) : Frz := fun b => w.heap[b]?
/-- The same below n, more from n on. -/
def Frz.ext (n : Nat) (μ ν : Frz) : Prop := μ.le ν ∧ ∀ b o, ν b = some o → b < n → μ b = some o
def FrzIn (w0 : World) (μ : Frz) : Prop := ∀ b o, b < w0.heap.size → μ b = some o → w0.heap[b]? = some o
def frzR (n : Nat) (μ : Frz) : Res where
  foot := fun b => n ≤ b ∧ ∃ o, μ b = some o
  holds := fun w => ∀ b o, n ≤ b → μ b = some o → w.heap[b]? = some o
  loc := fun w w' h hb b o hn ho => (h b ⟨hn, o, ho⟩).trans (hb b o hn ho)
  lt := fun w b hb hk => by obtain ⟨hn, o, ho⟩ := hk; exact (Array.getElem?_eq_some_iff.1 (hb b o hn ho)).1
theorem Frz.le_refl (μ : Frz) : μ.le μ := fun _ _ h => h
theorem Frz.le_trans {a b c : Frz} (h : a.le b) (k : b.le c) : a.le c := fun x o hx => k x o (h x o hx)
theorem Frz.ext_refl (n : Nat) (μ : Frz) : μ.ext n μ := ⟨μ.le_refl, fun _ _ h _ => h⟩
theorem Frz.ext_trans {n : Nat} {a b c : Frz} (h : a.ext n b) (k : b.ext n c) : a.ext n c := ⟨Frz.le_trans h.1 k.1, fun x o hx hn => h.2 x o (k.2 x o hx hn) hn⟩
theorem memOf_at (w : World) : FrzAt (memOf w) w := fun _ _ h => h
theorem FrzAt.le_mem {μ : Frz} {w : World} (h : FrzAt μ w) : μ.le (memOf w) := h
theorem FrzAt.low {μ ν : Frz} {w : World} (h : FrzAt ν w) (hle : μ.le ν) : FrzAt μ w := fun b o hb => h b o (hle b o hb)
section
variable {w0 w w' : World} {H : List Res} {μ ν : Frz} {R : Res}
theorem FrzAt.later (h : FrzAt μ w) (hx : Ext w w') : FrzAt μ w' := fun b o hb => hx.block (h b o hb)
theorem FrzAt.init (h : FrzAt μ w0) : FrzIn w0 μ ∧ St w0 [frzR w0.heap.size μ] w0 :=
  ⟨fun b o _ hb => h b o hb, (St.init w0).push (Ext.refl w0) (fun b o _ hb => h b o hb) (fun _ hb => hb.1)⟩
theorem St.frz {i : Nat} (h : St w0 H w) (hi : H[i]? = some (frzR w0.heap.size μ)) (hl : FrzIn w0 μ) : FrzAt μ w := fun b o hb => by
  rcases Nat.lt_or_ge b w0.heap.size with hlt | hge
  · exact h.ext.block (hl b o hlt hb)
  · exact h.res hi b o hge hb
/-- What the call owned no longer changes. -/
theorem St.freeze {i j : Nat} (h : St w0 H w) (hi : H[i]? = some (frzR w0.heap.size μ)) (hj : H[j]? = some R) (hij : i ≠ j) (hl : FrzIn w0 μ) :
    ∃ ν, μ.ext w0.heap.size ν ∧ FrzIn w0 ν ∧ St w0 ((H.set i (frzR w0.heap.size ν)).eraseIdx j) w ∧ ∀ w', FrzAt ν w' → R.holds w' := by
  classical
  have hR := h.res hj
  have hRm : R ∈ H := List.mem_of_getElem? hj
  refine ⟨fun b => if R.foot b then w.heap[b]? else μ b, ⟨fun b o hb => ?_, fun b o hb hn => ?_⟩, fun b o hlt hb => ?_, ?_, fun w' hw' => ?_⟩
  · by_cases hf : R.foot b
    · simp only [if_pos hf]; exact h.frz hi hl b o hb
    · simp only [if_neg hf]; exact hb
  · have hf : ¬ R.foot b := fun hf => by have := h.low R hRm b hf; omega
    simp only [if_neg hf] at hb; exact hb
  · have hf : ¬ R.foot b := fun hf => by have := h.low R hRm b hf; omega
    simp only [if_neg hf] at hb; exact hl b o hlt hb
  · -- the frozen part takes over the blocks of R
    have hlen : i < H.length := (List.getElem?_eq_some_iff.1 hi).1
    have hjl : j < H.length := (List.getElem?_eq_some_iff.1 hj).1
    have hget : ∀ S, S ∈ (H.set i (frzR w0.heap.size fun b => if R.foot b then w.heap[b]? else μ b)).eraseIdx j → S = frzR w0.heap.size (fun b => if R.foot b then w.heap[b]? else μ b) ∨ ∃ k, k ≠ i ∧ k ≠ j ∧ H[k]? = some S := by
      intro S hS
      obtain ⟨k, hk⟩ := List.mem_iff_getElem?.1 hS
      rw [List.getElem?_eraseIdx] at hk
      by_cases hkj : k < j
      · rw [if_pos hkj] at hk
        by_cases hki : k = i
        · subst hki; rw [List.getElem?_set_self hlen] at hk; cases hk; exact .inl rfl
        · rw [List.getElem?_set_ne (Ne.symm hki)] at hk; exact .inr ⟨k, hki, by omega, hk⟩
      · rw [if_neg hkj] at hk
        by_cases hki : k + 1 = i
        · rw [hki, List.getElem?_set_self hlen] at hk; cases hk; exact .inl rfl
        · rw [List.getElem?_set_ne (Ne.symm hki)] at hk; exact .inr ⟨k + 1, hki, by omega, hk⟩
    have apart : ∀ (p q : Nat) (S S' : Res), p ≠ q → H[p]? = some S → H[q]? = some S' → ∀ b, S.foot b → ¬ S'.foot b := by
      intro p q S S' hpq hp hq b hb hb'
      have hp1 := (List.getElem?_eq_some_iff.1 hp).1
      have hq1 := (List.getElem?_eq_some_iff.1 hq).1
      have e1 : H[p] = S := (List.getElem?_eq_some_iff.1 hp).2
      have e2 : H[q] = S' := (List.getElem?_eq_some_iff.1 hq).2
      rcases Nat.lt_or_gt_of_ne hpq with hlt | hgt
      · have := List.pairwise_iff_getElem.1 h.apart p q hp1 hq1 hlt
        rw [e1, e2] at this; exact this b hb hb'
      · have := List.pairwise_iff_getElem.1 h.apart q p hq1 hp1 hgt
        rw [e1, e2] at this; exact this b hb' hb
    have hnew : ∀ k S, k ≠ i → k ≠ j → H[k]? = some S → ∀ b, (frzR w0.heap.size fun b => if R.foot b then w.heap[b]? else μ b).foot b → ¬ S.foot b := by
      intro k S hki hkj hk b hb hSb
      obtain ⟨hn, o, ho⟩ := hb
      by_cases hf : R.foot b
      · exact apart j k R S (Ne.symm hkj) hj hk b hf hSb
      · simp only [if_neg hf] at ho
        exact apart i k _ S (Ne.symm hki) hi hk b ⟨hn, o, ho⟩ hSb
    refine ⟨h.ext, fun S hS => ?_, fun S hS b hb => ?_, ?_⟩
    · rcases hget S hS with rfl | ⟨k, _, _, hk⟩
      · intro b o hn ho
        by_cases hf : R.foot b
        · simp only [if_pos hf] at ho; exact ho
        · simp only [if_neg hf] at ho; exact h.res hi b o hn ho
      · exact h.res hk
    · rcases hget S hS with rfl | ⟨k, _, _, hk⟩
      · exact hb.1
      · exact h.low S (List.mem_of_getElem? hk) b hb
    · rw [List.pairwise_iff_getElem]
      intro p q hp hq hpq b hb hb'
      have key : ∀ z (hz : z < ((H.set i (frzR w0.heap.size fun b => if R.foot b then w.heap[b]? else μ b)).eraseIdx j).length), ∃ z', (p < q → True) ∧ ((H.set i (frzR w0.heap.size fun b => if R.foot b then w.heap[b]? else μ b))[z']? = some ((H.set i (frzR w0.heap.size fun b => if R.foot b then w.heap[b]? else μ b)).eraseIdx j)[z]) ∧ z' ≠ j ∧ (z' = if z < j then z else z + 1) := by
        intro z hz
        have hz2 := List.getElem?_eq_getElem hz
        rw [List.getElem?_eraseIdx] at hz2
        by_cases hzj : z < j
        · rw [if_pos hzj] at hz2; exact ⟨z, fun _ => trivial, hz2, by omega, by rw [if_pos hzj]⟩
        · rw [if_neg hzj] at hz2; exact ⟨z + 1, fun _ => trivial, hz2, by omega, by rw [if_neg hzj]⟩
      obtain ⟨p', _, hp', hpj, ep⟩ := key p hp
      obtain ⟨q', _, hq', hqj, eq⟩ := key q hq
      have hpq' : p' ≠ q' := by rw [ep, eq]; split <;> split <;> omega
      by_cases hpi : p' = i
      · rw [hpi, List.getElem?_set_self hlen] at hp'
        have hqi : q' ≠ i := fun e => hpq' (by rw [hpi, e])
        rw [List.getElem?_set_ne (Ne.symm hqi)] at hq'
        rw [← Option.some.inj hp'] at hb
        exact hnew q' _ hqi hqj hq' b hb hb'
      · rw [List.getElem?_set_ne (Ne.symm hpi)] at hp'
        by_cases hqi : q' = i
        · rw [hqi, List.getElem?_set_self hlen] at hq'
          rw [← Option.some.inj hq'] at hb'
          exact hnew p' _ hpi hpj hp' b hb' hb
        · rw [List.getElem?_set_ne (Ne.symm hqi)] at hq'
          exact apart p' q' _ _ hpq' hp' hq' b hb hb'
  · refine R.loc w w' (fun b hb => ?_) hR
    have hbl := R.lt w b hR hb
    have : w.heap[b]? = some w.heap[b] := Array.getElem?_eq_getElem hbl
    rw [this]
    exact hw' b _ (by simp only [if_pos hb]; exact this)
end

/-! ### Facts on it -/
inductive All2 {α β : Type} (R : α → β → Prop) : List α → List β → Prop
  | nil : All2 R [] []
  | cons {x : α} {y : β} {xs : List α} {ys : List β} : R x y → All2 R xs ys → All2 R (x :: xs) (y :: ys)
def ArrM {α : Type} (μ : Frz) (sz : Nat) (f : α → List Value) (ad : Option Addr) (cap : Nat) (l : List α) : Prop := ∀ w, FrzAt μ w → Arr w sz f ad l.length cap l
def BlkM (μ : Frz) (b : Nat) (t : TypeId) (cs : Array Value) : Prop := ∀ w, FrzAt μ w → Blk w b t cs
section
variable {w w' : World} {μ ν : Frz} {α : Type} {sz cap n e : Nat} {f : α → List Value} {ad : Option Addr} {l : List α}
theorem ArrM.mono (h : ArrM μ sz f ad cap l) (hle : μ.le ν) : ArrM ν sz f ad cap l := fun w hw => h w (hw.low hle)
theorem BlkM.mono {b : Nat} {t : TypeId} {cs : Array Value} (h : BlkM μ b t cs) (hle : μ.le ν) : BlkM ν b t cs := fun w hw => h w (hw.low hle)
theorem ArrM.nil : ArrM μ sz f none 0 ([] : List α) := fun _ _ => Arr.nil
theorem Arr.alike (h : Arr w sz f ad n cap l) (hw : FrzAt (memOf w) w') : Arr w' sz f ad n cap l := by
  obtain ⟨h1, ad', cap', e, h2, h3, h4, h5⟩ := h
  refine ⟨h1, ad', cap', e, h2, h3, h4, fun hn => ?_⟩
  obtain ⟨a, h6, h7, h8⟩ := h5 hn
  have hb : ∀ k, k < w.heap.size → w'.heap[k]? = w.heap[k]? := fun k hk => by
    have : w.heap[k]? = some w.heap[k] := Array.getElem?_eq_getElem hk
    rw [this]; exact hw k _ this
  refine ⟨a, h6, ?_, fun j u hu => ?_⟩
  · have := hb _ h7
    rw [Array.getElem?_eq_getElem h7] at this
    exact (Array.getElem?_eq_some_iff.1 this).1
  · have := h8 j u hu
    unfold World.cell? at this ⊢
    rw [addr_block] at this ⊢
    rw [hb _ h7]; exact this
theorem Arr.toM (h : Arr w sz f ad l.length cap l) : ArrM (memOf w) sz f ad cap l := fun _ hw => h.alike hw
end
end Go.Eng
/- The engine, part 13: operations with effects, whatever comes behind them. -/
namespace Go.Eng
open Go Go.RowKit

/-- Operation k, and then K. -/
def SK (P : Program) (r : Option Nat) (ops : Array Oper) (k : Nat) (K : Act → World → Prop) (a : Act) (w : World) : Prop :=
  ∃ o, ops[k]? = some o ∧ OpG P r ops o a w (fun v w' => K (a.put o.dst v) w')
section
variable {P : Program} {r : Option Nat} {ops : Array Oper} {Q : Exit → Act → World → Prop} {K : Act → World → Prop} {N : Nat} {ds : List Deferred} {M M' : List (Nat × Value)} {a : Act} {w w0 w' : World} {H : List Res} {k : Nat}
theorem SK.wi (h : SK P r ops k (fun a w => WI P r ops Q (k + 1) a w) a w) : WI P r ops Q k a w := by
  obtain ⟨o, ho, h⟩ := h
  exact WI.cons ho h (fun _ _ h => h)
theorem rawK {o : Oper} {v : Value} (hF : Fr N ds M a) (hdst : dstOk ops N = true) (ho : plainAt ops k M = some o) (hr : (execOp (rhoE (ofM M)) o).run P w = .ok (.value v) w')
    (hM : NextM ops k M v M') (next : ∀ a', Fr N ds M' a' → K a' w') : SK P r ops k K a w := by
  obtain ⟨h1, h2, h3⟩ := plainAt_spec (r := r) ho hF
  refine ⟨o, h1, ?_⟩
  unfold OpG OpR
  rw [if_pos h2, h3, hr]
  exact next _ (nextM_spec h1 hdst hF hM)
theorem skipK {o : Oper} (hF : Fr N ds M a) (hdst : dstOk ops N = true) (ho : plainAt ops k M = some o) (hr : (execOp (rhoE (ofM M)) o).run P w = .ok .skip w')
    (hM : NextM ops k M undef M') (next : ∀ a', Fr N ds M' a' → K a' w') : SK P r ops k K a w := by
  obtain ⟨h1, h2, h3⟩ := plainAt_spec (r := r) ho hF
  refine ⟨o, h1, ?_⟩
  unfold OpG OpR
  rw [if_pos h2, h3, hr]
  exact next _ (nextM_spec h1 hdst hF hM)
theorem effK {s : Sem Value} {v : Value} (hF : Fr N ds M a) (hdst : dstOk ops N = true) (hs : EffAt ops k M s) (hr : s.run P w = .ok v w')
    (hM : NextM ops k M v M') (next : ∀ a', Fr N ds M' a' → K a' w') : SK P r ops k K a w := by
  have hs := hs.eq
  cases ho : plainAt ops k M with
  | none => rw [ho] at hs; simp at hs
  | some o =>
    rw [ho] at hs
    exact rawK hF hdst ho (effSem_run hs hr).2 hM next
theorem boxK (M' : Nat → List (Nat × Value)) {t : TypeId} (v : Value) (cs : Array Value) (hF : Fr N ds M a) (hS : St w0 H w) (hdst : dstOk ops N = true) (hs : EffAt ops k M (Instr.box t v)) (hcs : v.cells = cs)
    (hM : ∀ b, NextM ops k M (.pointer (some ⟨b, 0, none⟩)) (M' b))
    (next : ∀ b w' a', Fr N ds (M' b) a' → St w0 (blk b t cs :: H) w' → K a' w') : SK P r ops k K a w := by
  refine effK hF hdst hs (v := .pointer (some ⟨w.heap.size, 0, none⟩)) (w' := { w with heap := w.heap.push (.cells cs t) }) ?_ (hM _) ?_
  · subst hcs
    simp [Instr.box, newVar, newRow]
  · intro a' hF'
    exact next _ _ a' hF' (hS.push (ext_alloc w _) (blk_new w t cs) (fun b hb => by rw [show b = w.heap.size from hb]; exact Nat.le_refl _))
theorem allocK (M' : Nat → List (Nat × Value)) {t : TypeId} (cs : Array Value) (hF : Fr N ds M a) (hS : St w0 H w) (hdst : dstOk ops N = true) (hs : EffAt ops k M (Instr.alloc t true (.tuple #[])))
    (hz : ((P.info? t).bind (·.zero)).map Value.cells = some cs) (hM : ∀ b, NextM ops k M (.pointer (some ⟨b, 0, none⟩)) (M' b))
    (next : ∀ b w' a', Fr N ds (M' b) a' → St w0 (blk b t cs :: H) w' → K a' w') : SK P r ops k K a w := by
  refine effK hF hdst hs (v := .pointer (some ⟨w.heap.size, 0, none⟩)) (w' := { w with heap := w.heap.push (.cells cs t) }) ?_ (hM _) ?_
  · cases hi : P.info? t with
    | none => rw [hi] at hz; simp at hz
    | some i =>
      cases hzz : i.zero with
      | none => rw [hi] at hz; simp [hzz] at hz
      | some z =>
        rw [hi] at hz
        simp [hzz] at hz
        subst hz
        simp [Instr.alloc, zeroValue, typeInfo, hi, hzz, newVar, newRow]
  · intro a' hF'
    exact next _ _ a' hF' (hS.push (ext_alloc w _) (blk_new w t cs) (fun b hb => by rw [show b = w.heap.size from hb]; exact Nat.le_refl _))
theorem storeRawK {t : TypeId} {p : Addr} {v : Value} (hF : Fr N ds M a) (hdst : dstOk ops N = true) (hs : StoreAt ops k M t (.pointer (some p)) v) (hr : (storeVar t p v).run P w = .ok () w')
    (hM : NextM ops k M undef M') (next : ∀ a', Fr N ds M' a' → K a' w') : SK P r ops k K a w := by
  have hs := hs.eq
  cases ho : plainAt ops k M with
  | none => rw [ho] at hs; simp at hs
  | some o =>
    rw [ho] at hs
    simp only [Option.bind_some] at hs
    split at hs
    · rename_i t' x y hop
      simp at hs
      obtain ⟨rfl, h1, h2⟩ := hs
      refine skipK hF hdst ho ?_ hM next
      unfold execOp
      rw [hop]
      simp [Instr.storeAt, Instr.sureAddr, h1, h2, hr]
    · simp at hs
theorem storeK (M' : List (Nat × Value)) (i : Nat) {t tt : TypeId} {b : Nat} {cs : Array Value} (off : Nat) (v : Value) (cs' : Array Value) (hF : Fr N ds M a) (hS : St w0 H w) (hi : H[i]? = some (blk b tt cs)) (hdst : dstOk ops N = true)
    (hs : StoreAt ops k M t (.pointer (some ⟨b, off, none⟩)) v) (hsz : pureSem P (sizeOf t) = some v.cells.size) (hone : v.cells.toList.all Value.oneCell' = true) (hfit : Nat.ble (off + v.cells.size) cs.size = true) (hcs : splice cs off v.cells.toList = cs')
    (hM : NextM ops k M undef M') (next : ∀ w' a', Fr N ds M' a' → St w0 (H.set i (blk b tt cs')) w' → K a' w') : SK P r ops k K a w := by
  have hb := hS.blk hi
  have hsz' := pureSem_run _ _ hsz w
  have hst := run_storeCells_at P b off tt v.cells.toList 0 cs w hb (by simpa using Nat.le_of_ble_eq_true hfit) (fun u hu => List.all_eq_true.1 hone u hu)
  simp only [Nat.add_zero] at hst
  refine storeRawK hF hdst hs (w' := w.setRow b cs') ?_ hM ?_
  · subst hcs
    unfold splice
    simp [storeVar, hsz', hst]
  · intro a' hF'
    refine next _ a' hF' (hS.upd hi rfl rfl rfl (by simp [World.setRow]) (fun j _ hj => setRow_other w b j _ hj) ?_ (fun j hj => .inl hj))
    show (w.setRow b cs').heap[b]? = _
    exact setRow_heap w b cs _ tt _ hb
theorem callK (M' : Value → List (Nat × Value)) {f : FuncId} {args : Array Value} {R : Value → World → Prop} (hF : Fr N ds M a) (hdst : dstOk ops N = true) (hs : CallAt P ops k M f args)
    (hc : Calls P f args w (fun e w' => ∃ v, e = .returned v ∧ R v w')) (hM : ∀ v, NextM ops k M v (M' v)) (next : ∀ v w' a', R v w' → Fr N ds (M' v) a' → K a' w') : SK P r ops k K a w := by
  have hs := hs.eq
  cases ho : plainAt ops k M with
  | none => rw [ho] at hs; simp at hs
  | some o =>
    rw [ho] at hs
    simp only [Option.bind_some] at hs
    split at hs
    · rename_i f' args' hp
      simp at hs
      obtain ⟨rfl, rfl⟩ := hs
      obtain ⟨h1, h2, h3⟩ := plainAt_spec (r := r) ho hF
      refine ⟨o, h1, ?_⟩
      unfold OpG OpR
      rw [if_pos h2, h3, pureSem_run _ _ hp w]
      refine Calls.mono hc ?_
      rintro e w'' ⟨v, rfl, hv⟩
      exact ⟨v, rfl, next v w'' _ hv (nextM_spec h1 hdst hF (hM v))⟩
    · simp at hs
variable {α : Type} {e sz cap : Nat} {f : α → List Value} {ad : Option Addr} {l : List α}
/-- A literal of a slice. -/
theorem litK (M' : Nat → List (Nat × Value)) {t len : Nat} (parts : Array (Nat × Value)) (cs : Array Value) (l : List α) (hF : Fr N ds M a) (hS : St w0 H w) (hdst : dstOk ops N = true) (hs : EffAt ops k M (Instr.buildSlice t len parts))
    (hb : buildCells P t len parts = some (e, cs)) (hf : ∀ x, (f x).length = sz) (hl : l.length = len) (hc : l.flatMap f = cs.toList) (hn : Nat.ble len 16777216 = true) (hM : ∀ b, NextM ops k M (.slice (some ⟨b, 0, none⟩) len len) (M' b))
    (next : ∀ b w' a', Fr N ds (M' b) a' → St w0 (arr e sz f (some ⟨b, 0, none⟩) l.length len l :: H) w' → K a' w') : SK P r ops k K a w := by
  subst hl
  refine effK hF hdst hs (buildSlice_run hb) (hM _) ?_
  intro a' hF'
  have h1 : St w0 (blk w.heap.size e cs :: H) { w with heap := w.heap.push (.cells cs e) } := hS.push (ext_alloc w _) (blk_new w e cs) (fun b hb => by rw [show b = w.heap.size from hb]; exact Nat.le_refl _)
  have h2 := h1.blk_arr (f := f) (sz := sz) (l := l) (n := l.length) hf rfl hc (by have := Nat.le_of_ble_eq_true hn; simp only [maxLen]; omega)
  exact next _ _ a' hF' h2
theorem apd_some {B : Nat} {l l' l3 : List α} (h : apd B l l' = some l3) : l3 = l ++ l' ∧ (l.length + l'.length) * B ≤ 140737488355328 ∧ l.length + l'.length ≤ maxLen := by
  unfold apd at h
  split at h
  · cases h; rename_i h; exact ⟨rfl, h.1, h.2⟩
  · cases h
/-- append to a slice of the call's own. -/
theorem appK (M' : Option Addr → Nat → List (Nat × Value)) (i : Nat) {t ty bytes scap : Nat} {sad : Option Addr} {l' l3 : List α} (hF : Fr N ds M a) (hS : St w0 H w) (hi : H[i]? = some (arr e sz f ad l.length cap l)) (hdst : dstOk ops N = true)
    (hs : EffAt ops k M (Builtin.append_ #[t, t] ty #[.slice ad l.length cap, .slice sad l'.length scap])) (hty : sliceTy P t e sz bytes = true) (hsrc : Arr w sz f sad l'.length scap l') (h1 : ∀ x ∈ l', (f x).all Value.oneCell' = true) (hap : apd bytes l l' = some l3)
    (hM : ∀ ad2 cap2, NextM ops k M (.slice ad2 l3.length cap2) (M' ad2 cap2))
    (next : ∀ ad2 cap2 w' a', Fr N ds (M' ad2 cap2) a' → St w0 (H.set i (arr e sz f ad2 l3.length cap2 l3)) w' → K a' w') : SK P r ops k K a w := by
  obtain ⟨rfl, hb, h63⟩ := apd_some hap
  have hold := hS.holds _ (List.mem_of_getElem? hi)
  obtain ⟨ad2, cap2, w', hr, hown, hg, hblk⟩ := run_app (ty := ty) hty hold.2 hsrc.2 (fun u hu => by
    obtain ⟨x, hx, hux⟩ := List.mem_flatMap.1 hu
    exact List.all_eq_true.1 (h1 x hx) u hux) hb h63
  have hlen : (l ++ l').length = l.length + l'.length := List.length_append
  refine effK hF hdst hs hr (by rw [← hlen]; exact hM ad2 cap2) ?_
  intro a' hF'
  rw [← List.flatMap_append] at hown
  refine next ad2 cap2 w' a' hF' (hS.upd hi hg.os hg.tape hg.output hg.size (fun j hj hnj => hg.block j hj (fun e => hnj e.symm)) ⟨rfl, ?_⟩ ?_)
  · rw [hlen]; exact hown
  · rw [hlen]; exact hblk
end
end Go.Eng
/- The engine, part 14: a region in whatever order, told in one order: what only reads as early as it can, effects one behind the other. -/
namespace Go.Eng
open Go Go.RowKit

def lastW (ops : Array Oper) : List Nat → Nat → Option Nat
  | [], _ => none
  | j :: l, t => match lastW ops l t with | some q => some q | none => bif (match dstAt ops j with | some d => Nat.beq d t | none => false) then some j else none
/-- Operation i reads, wherever D holds, the value v. -/
def ReadAt (P : Program) (r : Option Nat) (ops : Array Oper) (D : World → Prop) (i : Nat) (a : Act) (v : Value) : Prop :=
  ∃ o, ops[i]? = some o ∧ ∀ a' w', (∀ t ∈ o.looksAt ops, a'.tmps.getD t undef = a.tmps.getD t undef) → D w' → OpG P r ops o a' w' (fun v' w'' => v' = v ∧ w'' = w')
def WRun (P : Program) (r : Option Nat) (ops : Array Oper) (D : World → Prop) (eff : List Nat) (K : Act → World → Prop) : List Nat → Act → World → Prop
  | [], a, w => K a w
  | i :: l, a, w => bif eff.contains i then SK P r ops i (fun a' w' => D w' ∧ WRun P r ops D eff K l a' w') a w else ∃ v, ReadAt P r ops D i a v ∧ WRun P r ops D eff K l (a.put (dstAt ops i) v) w
def srcsOk (ops : Array Oper) : List Nat → List Nat → Bool
  | _, [] => true
  | pre, i :: l => (match ops[i]? with | some o => (o.looksAt ops).all fun t => lastW ops pre t == srcOf ops i t | none => false) && srcsOk ops (pre ++ [i]) l
def nodupB : List Nat → Bool
  | [] => true
  | i :: l => !l.contains i && nodupB l
section
variable {P : Program} {r : Option Nat} {ops : Array Oper} {Q : Exit → Act → World → Prop} {K : Act → World → Prop} {D : World → Prop} {N m : Nat} {eff : List Nat}
theorem nodupB_spec : ∀ {l : List Nat}, nodupB l = true → l.Nodup := by
  intro l
  induction l with
  | nil => intro _; exact List.nodup_nil
  | cons i l ih =>
    intro h
    rw [nodupB, Bool.and_eq_true] at h
    exact List.nodup_cons.2 ⟨by simpa using h.1, ih h.2⟩
theorem lastW_mem : ∀ {l : List Nat} {t j : Nat}, lastW ops l t = some j → j ∈ l ∧ dstAt ops j = some t := by
  intro l
  induction l with
  | nil => intro t j h; simp [lastW] at h
  | cons i l ih =>
    intro t j h
    rw [lastW] at h
    cases hl : lastW ops l t with
    | some q => rw [hl] at h; cases h; exact ⟨List.mem_cons_of_mem _ (ih hl).1, (ih hl).2⟩
    | none =>
      rw [hl] at h
      simp only at h
      cases hd : dstAt ops i with
      | none => rw [hd] at h; simp at h
      | some d =>
        rw [hd] at h
        simp only at h
        cases hb : Nat.beq d t with
        | false => rw [hb] at h; simp at h
        | true => rw [hb] at h; simp at h; rw [Nat.beq_eq] at hb; subst hb; subst h; exact ⟨List.mem_cons_self .., hd⟩
theorem lastW_snoc {l : List Nat} {i t : Nat} : lastW ops (l ++ [i]) t = if dstAt ops i = some t then some i else lastW ops l t := by
  induction l with
  | nil =>
    simp only [List.nil_append, lastW]
    cases hd : dstAt ops i with
    | none => simp
    | some d =>
      by_cases h : d = t
      · subst h; simp
      · have : Nat.beq d t = false := by rw [← Bool.not_eq_true, Nat.beq_eq]; exact h
        simp [this, h]
  | cons j l ih =>
    simp only [List.cons_append, lastW, ih]
    by_cases h : dstAt ops i = some t
    · rw [if_pos h]; simp [h]
    · rw [if_neg h, if_neg h]
theorem getElem?_of_getD {x y : Array Value} {t : Nat} (hs : x.size = y.size) (h : x.getD t undef = y.getD t undef) : x[t]? = y[t]? := by
  rw [Array.getD_eq_getD_getElem?, Array.getD_eq_getD_getElem?] at h
  by_cases ht : t < x.size
  · rw [Array.getElem?_eq_getElem ht, Array.getElem?_eq_getElem (by omega)] at h ⊢
    simpa using h
  · rw [Array.getElem?_eq_none (by omega), Array.getElem?_eq_none (by omega)]
theorem OpG_congr {o : Oper} {a a' : Act} {w : World} {R : Value → World → Prop} (hp : plainOp o.op = true) (hs : a'.tmps.size = a.tmps.size) (h : ∀ t ∈ o.looksAt ops, a'.tmps.getD t undef = a.tmps.getD t undef) (hG : OpG P r ops o a w R) : OpG P r ops o a' w R := by
  have hw : Region.wanted o (yielded ops a'.tmps) = Region.wanted o (yielded ops a.tmps) := by
    unfold Region.wanted
    cases hg : o.guard with
    | none => rfl
    | some jw =>
      obtain ⟨j, want⟩ := jw
      simp only
      have : yielded ops a'.tmps j = yielded ops a.tmps j := by
        unfold yielded
        cases hd : (ops[j]?).bind (·.dst) with
        | none => simp
        | some g =>
          have hmem : g ∈ o.looksAt ops := by
            unfold Oper.looksAt
            rw [hg]
            refine List.mem_append_right _ ?_
            simp [hd]
          have := getElem?_of_getD hs (h g hmem)
          simp [this]
      rw [this]
  have he : o.semAt r a'.eval = o.semAt r a.eval := by
    rw [semAt_plain hp, semAt_plain hp]
    refine execOp_congr o (fun cs b hh => by rw [hh] at hp; simp [plainOp] at hp) ?_
    intro x hx
    cases x with
    | tmp t => exact h t (List.mem_append_left _ (List.mem_filterMap.2 ⟨.tmp t, by simpa using hx, rfl⟩))
    | const v => rfl
    | global g => rfl
    | func f => rfl
  unfold OpG OpR at *
  rw [hw, he]
  exact hG
structure FIs (ops : Array Oper) (N : Nat) (a0 : Act) (vals : Nat → Value) (l : List Nat) (b : Act) : Prop where
  size : b.tmps.size = N
  dfs : b.defers = a0.defers
  slot : ∀ t, b.tmps.getD t undef = (match lastW ops l t with | some j => vals j | none => a0.tmps.getD t undef)
theorem FIs.put {a0 b : Act} {vals : Nat → Value} {l : List Nat} {i : Nat} {v : Value} (h : FIs ops N a0 vals l b) (hdst : dstOk ops N = true) (hi : i < ops.size) (hn : i ∉ l) : FIs ops N a0 (updV vals i v) (l ++ [i]) (b.put (dstAt ops i) v) := by
  refine ⟨by rw [put_size]; exact h.size, by rw [put_defers]; exact h.dfs, fun t => ?_⟩
  rw [lastW_snoc]
  by_cases hd : dstAt ops i = some t
  · rw [if_pos hd, hd]
    have : t < b.tmps.size := by
      rw [h.size]
      exact dstOk_spec hdst (Array.getElem?_eq_getElem hi) (by simpa [dstAt, Array.getElem?_eq_getElem hi] using hd)
    rw [put_same this]
    simp [updV]
  · rw [if_neg hd, put_other hd, h.slot t]
    cases hl : lastW ops l t with
    | none => rfl
    | some j =>
      have : j ≠ i := fun e => hn (e ▸ (lastW_mem hl).1)
      simp [updV, this]
end

/-! ### Reading in such an order -/
def evalL (P : Program) (ops : Array Oper) : List Nat → List (Nat × En) → List Value → Option (List (Nat × En) × List Ob)
  | [], E, vs => match vs with | [] => some (E, []) | _ => none
  | i :: l, E, vs =>
    match ops[i]? with
    | none => none
    | some o =>
      match evalOp P ops E o vs with
      | none => none
      | some (e, ob, vs') =>
        bif dstFree E o.dst e then
          match evalL P ops l (putE E o.dst e) vs' with
          | none => none
          | some (E', obs) => some (E', ob ++ obs)
        else none
structure EndsL (P : Program) (ops : Array Oper) (rs : List Nat) (M M' : List (Nat × Value)) (obs : List Ob) : Prop where
  eq : ((evalL P ops rs (ofM M) (obs.map Ob.v)).map fun x => (M'.map (fun p => lookE x.1 p.1), x.2)) = some (M'.map (fun p => some ⟨[], p.2⟩), obs)
section
variable {P : Program} {r : Option Nat} {ops : Array Oper} {K : Act → World → Prop} {D : World → Prop} {N : Nat} {eff : List Nat} {ds : List Deferred} {M M' : List (Nat × Value)} {a : Act} {w : World} {obs : List Ob}
theorem evalL_run (hdst : dstOk ops N = true) {rest : List Nat} : ∀ (rs : List Nat) (E E' : List (Nat × En)) (vs : List Value) (obs : List Ob) (a : Act), evalL P ops rs E vs = some (E', obs) → CohE E → Obs P (fun a b => b = a) D obs → rs.all (fun i => !eff.contains i) = true →
    a.tmps.size = N → EnvOk (toA E) a w → (∀ a', a'.tmps.size = N → a'.defers = a.defers → EnvOk (toA E') a' w → WRun P r ops D eff K rest a' w) → WRun P r ops D eff K (rs ++ rest) a w := by
  intro rs
  induction rs with
  | nil =>
    intro E E' vs obs a h _ _ _ hN hE next
    cases vs with
    | nil => simp [evalL] at h; rw [h.1] at hE; exact next a hN rfl hE
    | cons => simp [evalL] at h
  | cons i rs ih =>
    intro E E' vs obs a h hc hob hne hN hE next
    simp only [evalL] at h
    cases ho : ops[i]? with
    | none => rw [ho] at h; simp at h
    | some o =>
      rw [ho] at h
      simp only at h
      cases hev : evalOp P ops E o vs with
      | none => rw [hev] at h; simp at h
      | some x =>
        obtain ⟨e, ob, vs'⟩ := x
        rw [hev] at h
        simp only at h
        cases hf : dstFree E o.dst e with
        | false => rw [hf] at h; simp at h
        | true =>
          rw [hf] at h
          simp only [cond_true] at h
          cases hr : evalL P ops rs (putE E o.dst e) vs' with
          | none => rw [hr] at h; simp at h
          | some y =>
            obtain ⟨E1, obs1⟩ := y
            rw [hr] at h
            simp at h
            obtain ⟨rfl, rfl⟩ := h
            rw [Obs.append] at hob
            obtain ⟨h1, h2⟩ := evalOp_spec (r := r) trans_eq hc hev hob.1
            rw [List.all_cons, Bool.and_eq_true] at hne
            have hni : eff.contains i = false := by simpa using hne.1
            have hd : dstAt ops i = o.dst := by simp [dstAt, ho]
            rw [List.cons_append, WRun, hni]
            simp only [cond_false]
            refine ⟨e.val, ⟨o, ho, fun a' w' hs hw' => ?_⟩, ?_⟩
            · refine (h2 a' w' hw' (fun t ht ψ hl => ?_)).mono (fun v w'' hh => ⟨hh.2, hh.1⟩)
              rw [hs t ht]
              have := hE t ψ hl
              rw [lookA_toA] at hl
              cases hle : lookE E t with
              | none => rw [hle] at hl; simp at hl
              | some e' => rw [hle] at hl; simp at hl; subst hl; exact this
            · rw [hd]
              refine ih _ _ _ _ _ hr (coh_put hc h1 hf) hob.2 hne.2 (by rw [put_size]; exact hN) ?_ (fun a' hN' hd' hE' => next a' hN' (hd'.trans (put_defers _ _ _)) hE')
              rw [toA_put]
              exact hE.push (T := fun a b => b = a) (stab_toA _ _) rfl (fun t ht => hN ▸ dstOk_spec hdst ho ht) rfl
theorem runC {rest : List Nat} (rs : List Nat) (M' : List (Nat × Value)) (hF : Fr N ds M a) (hdst : dstOk ops N = true) (hne : rs.all (fun i => !eff.contains i) = true) (hob : Obs P (fun a b => b = a) D obs) (h : EndsL P ops rs M M' obs)
    (next : ∀ a', Fr N ds M' a' → WRun P r ops D eff K rest a' w) : WRun P r ops D eff K (rs ++ rest) a w := by
  have h := h.eq
  cases hev : evalL P ops rs (ofM M) (obs.map Ob.v) with
  | none => rw [hev] at h; simp at h
  | some x =>
    obtain ⟨E', obs'⟩ := x
    rw [hev] at h
    simp only [Option.map_some, Option.some.injEq, Prod.mk.injEq] at h
    obtain ⟨h1, rfl⟩ := h
    refine evalL_run hdst rs _ _ _ _ a hev (coh_ofM M) hob hne hF.size (envOk_ofM hF w) ?_
    intro a' hN hd hE
    refine next a' ⟨hN, hd.trans hF.defers, fun p hp => ?_⟩
    have hlk : lookE E' p.1 = some ⟨[], p.2⟩ := List.map_inj_left.1 h1 p hp
    have := hE p.1 (fun v _ => v = (⟨[], p.2⟩ : En).val) (by rw [lookA_toA, hlk]; rfl)
    simpa [En.val, condsOk] using this
theorem WRun.fin (h : K a w) : WRun P r ops D eff K [] a w := h
end
end Go.Eng
/- The engine, part 15: cells of plain data, parts of slices. -/
namespace Go.Eng
open Go Go.RowKit
def fK (k : IntKind) (x : Int) : List Value := [.int k x]
theorem fK_len (k : IntKind) (x : Int) : (fK k x).length = 1 := rfl
section
variable {P : Program} {T : World → World → Prop} {D : World → Prop} {w : World} {cs : List Cd} {t : Nat} {α : Type} {sz n cap : Nat} {f : α → List Value} {ad : Option Addr} {l l2 : List α} {lo hi : Int} {γ : Type} {c : List γ} {g : γ → List Value}
end
end Go.Eng
/- The engine, part 16: data with parts elsewhere in memory. -/
namespace Go.Eng
open Go Go.RowKit
abbrev Rel (α : Type) := Frz → List Value → α → Prop
def Rel.Mono {α : Type} (R : Rel α) : Prop := ∀ (μ ν : Frz) (cs : List Value) (x : α), μ.le ν → R μ cs x → R ν cs x
def fN (sz : Nat) (cs : List Value) : List Value := (cs ++ List.replicate sz undef).take sz
theorem fN_len (sz : Nat) (cs : List Value) : (fN sz cs).length = sz := by simp [fN]
/-- Whose cells hold no aggregates. -/
def Rel.One {α : Type} (sz : Nat) (R : Rel α) : Prop := ∀ (μ : Frz) (cs : List Value) (x : α), R μ cs x → (fN sz cs).all Value.oneCell' = true
def RpF {α : Type} (f : α → List Value) : Rel α := fun _ cs x => cs = f x
theorem RpF.mono {α : Type} {f : α → List Value} : (RpF f).Mono := fun _ _ _ _ _ h => h
def ArrQ {α : Type} (μ : Frz) (sz : Nat) (R : Rel α) (ad : Option Addr) (cap : Nat) (css : List (List Value)) (l : List α) : Prop := ArrM μ sz (fN sz) ad cap css ∧ All2 (R μ) css l
/-- A pointer, or none. -/
def PtM {α : Type} (μ : Frz) (T : TypeId) (R : Rel α) (pa : Option Addr) (x : Option α) : Prop :=
  (pa = none ∧ x = none) ∨ ∃ b cs d, pa = some ⟨b, 0, none⟩ ∧ x = some d ∧ BlkM μ b T cs.toArray ∧ R μ cs d
section
variable {α β : Type} {R : Rel α} {μ ν : Frz} {sz cap : Nat} {ad : Option Addr} {css css' : List (List Value)} {l l' : List α} {w : World}
theorem All2.len {R : α → β → Prop} {xs : List α} {ys : List β} (h : All2 R xs ys) : xs.length = ys.length := by
  induction h with
  | nil => rfl
  | cons _ _ ih => simp [ih]
theorem All2.imp {R S : α → β → Prop} {xs : List α} {ys : List β} (h : All2 R xs ys) (hi : ∀ x y, R x y → S x y) : All2 S xs ys := by
  induction h with
  | nil => exact .nil
  | cons h _ ih => exact .cons (hi _ _ h) ih
theorem All2.take {R : α → β → Prop} {xs : List α} {ys : List β} (h : All2 R xs ys) : ∀ k, All2 R (xs.take k) (ys.take k) := by
  induction h with
  | nil => intro k; simp; exact .nil
  | cons h _ ih => intro k; cases k with
    | zero => exact .nil
    | succ k => exact .cons h (ih k)
theorem All2.drop {R : α → β → Prop} {xs : List α} {ys : List β} (h : All2 R xs ys) : ∀ k, All2 R (xs.drop k) (ys.drop k) := by
  induction h with
  | nil => intro k; simp; exact .nil
  | cons h h2 ih => intro k; cases k with
    | zero => exact .cons h h2
    | succ k => exact ih k
theorem All2.set {R : α → β → Prop} {xs : List α} {ys : List β} {x : α} {y : β} (h : All2 R xs ys) (hxy : R x y) : ∀ k, All2 R (xs.set k x) (ys.set k y) := by
  induction h with
  | nil => intro k; simp; exact .nil
  | cons h h2 ih => intro k; cases k with
    | zero => exact .cons hxy h2
    | succ k => exact .cons h (ih k)
theorem All2.mono (hR : R.Mono) (hle : μ.le ν) (h : All2 (R μ) css l) : All2 (R ν) css l := h.imp fun _ _ => hR _ _ _ _ hle
theorem ArrQ.mono (h : ArrQ μ sz R ad cap css l) (hR : R.Mono) (hle : μ.le ν) : ArrQ ν sz R ad cap css l := ⟨h.1.mono hle, h.2.mono hR hle⟩
theorem ArrQ.at (h : ArrQ μ sz R ad cap css l) (hw : FrzAt μ w) : Arr w sz (fN sz) ad l.length cap css := by
  have := h.1 w hw
  rwa [h.2.len] at this
theorem ArrQ.nil : ArrQ μ sz R none 0 [] ([] : List α) := ⟨ArrM.nil, .nil⟩
theorem PtM.mono {T : TypeId} {pa : Option Addr} {x : Option α} (h : PtM μ T R pa x) (hR : R.Mono) (hle : μ.le ν) : PtM ν T R pa x := by
  rcases h with h | ⟨b, cs, d, h1, h2, h3, h4⟩
  · exact .inl h
  · exact .inr ⟨b, cs, d, h1, h2, h3.mono hle, hR _ _ _ _ hle h4⟩
theorem PtM.some {T : TypeId} {pa : Option Addr} {x : Option α} {d : α} (h : PtM μ T R pa x) (hx : x = .some d) : ∃ b cs, pa = Option.some ⟨b, 0, none⟩ ∧ BlkM μ b T cs.toArray ∧ R μ cs d := by
  rcases h with ⟨_, rfl⟩ | ⟨b, cs, d', h1, h2, h3, h4⟩
  · cases hx
  · rw [hx] at h2; cases h2; exact ⟨b, cs, h1, h3, h4⟩
theorem PtM.mk {T : TypeId} {b : Nat} {cs : List Value} {d : α} (h1 : BlkM μ b T cs.toArray) (h2 : R μ cs d) : PtM μ T R (Option.some ⟨b, 0, none⟩) (Option.some d) := .inr ⟨b, cs, d, rfl, rfl, h1, h2⟩
theorem PtM.nil {T : TypeId} : PtM μ T R none none := .inl ⟨rfl, rfl⟩
theorem Blk.toM {b : Nat} {t : TypeId} {cs : Array Value} (h : Blk w b t cs) : BlkM (memOf w) b t cs := fun _w' hw => hw b _ h
theorem BlkM.blk {b : Nat} {t : TypeId} {cs : Array Value} (h : BlkM μ b t cs) (hw : FrzAt μ w) : Blk w b t cs := h w hw
theorem ArrQ.of_own (h : Arr w sz (fN sz) ad l.length cap css) (h2 : All2 (R μ) css l) (hR : R.Mono) (hle : μ.le (memOf w)) : ArrQ (memOf w) sz R ad cap css l := by
  refine ⟨Arr.toM ?_, h2.mono hR hle⟩
  rw [h2.len]; exact h
theorem ArrQ.one (h : All2 (R μ) css l) (hR : R.One sz) : ∀ x ∈ css, (fN sz x).all Value.oneCell' = true := by
  induction h with
  | nil => intro x hx; simp at hx
  | cons h _ ih => intro x hx; rcases List.mem_cons.1 hx with rfl | hx
                   · exact hR _ _ _ h
                   · exact ih x hx
end
section
variable {P : Program} {T : World → World → Prop} {D : World → Prop} {w : World} {cs : List Cd} {t : Nat} {α : Type} {sz n cap : Nat} {f : α → List Value} {ad : Option Addr} {l : List α}
theorem obIdxQ {i : Int} {u : α} (h : Arr w sz f ad n cap l) (ht : sliceOf P t sz = true) (hx : condsOk cs = true → getI l i = some u) :
    Ob.ok P T D (.run cs (Instr.indexAt t (.slice ad n cap) (.int .i64 i)) (.pointer (some (slAddr ad i sz)))) :=
  obIdx h ht fun hk => by have := getI_some (hx hk); have := h.len; exact ⟨by omega, by omega⟩
theorem obElQ {i : Int} {u : α} {v : Value} (j : Nat) (hf : ∀ x, (f x).length = sz) (h : ∀ w', D w' → Arr w' sz f ad n cap l) (ht : notAgg P t = true) (hx : condsOk cs = true → getI l i = some u) (hj : (f u)[j]? = some v) :
    Ob.ok P T D (.run cs (Instr.loadAt t (.pointer (some ((slAddr ad i sz).add j)))) v) := by
  intro hk w' e
  obtain ⟨h0, hi, hg⟩ := getI_some (hx hk)
  have hl := (h w' e).len
  obtain ⟨_, _, hc⟩ := (h w' e).cells hf h0 (by omega) u
  rw [getD_of hg] at hc
  exact load1_run ht (hc j _ hj)
theorem obElNQ {m : Nat} {i : Int} {u : α} {us : List Value} (j : Nat) (hf : ∀ x, (f x).length = sz) (h : ∀ w', D w' → Arr w' sz f ad n cap l) (ht : aggSize P t = some m) (hx : condsOk cs = true → getI l i = some u) (hg : us.length = m ∧ ((f u).drop j).take m = us) :
    Ob.ok P T D (.run cs (Instr.loadAt t (.pointer (some ((slAddr ad i sz).add j)))) (.agg us.toArray)) := by
  intro hk w' e
  obtain ⟨h0, hi, hgu⟩ := getI_some (hx hk)
  have hl := (h w' e).len
  obtain ⟨_, _, hc⟩ := (h w' e).cells hf h0 (by omega) u
  rw [getD_of hgu] at hc
  refine loadN_run (by rw [hg.1]; exact ht) (fun q u' hu => ?_)
  rw [addr_add]
  refine hc (j + q) u' ?_
  rw [← hg.2, List.getElem?_take] at hu
  split at hu
  · rwa [List.getElem?_drop] at hu
  · cases hu
end
section
variable {P : Program} {r : Option Nat} {ops : Array Oper} {K : Act → World → Prop} {N : Nat} {ds : List Deferred} {M : List (Nat × Value)} {a : Act} {w w0 : World} {H : List Res} {k : Nat} {α β : Type} {e sz cap : Nat} {f : α → List Value} {ad : Option Addr} {c c' : List α} {l l' l3 : List β}
end
end Go.Eng
/- The engine, part 17: a region in whatever order, all orders of its effects told. -/
namespace Go.Eng
open Go Go.RowKit

def ancB (ops : Array Oper) (e i : Nat) : Bool := ((masks ops.toList []).getD i 0).testBit e
/-- The readings that come free by the last of the effects that are done. -/
def newReads (ops : Array Oper) (m : Nat) (eff done : List Nat) : List Nat :=
  (List.range m).filter fun i => !eff.contains i && (eff.all fun e => !ancB ops e i || done.contains e) && (match done.getLast? with | some e => ancB ops e i | none => true)
def nexts (ops : Array Oper) (eff done : List Nat) : List Nat := eff.filter fun e => !done.contains e && eff.all fun d => !ancB ops d e || done.contains d
def WT (P : Program) (r : Option Nat) (ops : Array Oper) (D : World → Prop) (m : Nat) (eff : List Nat) (K : Act → World → Prop) : Nat → List Nat → Act → World → Prop
  | 0, done, a, w => WRun P r ops D [] K (newReads ops m eff done) a w
  | n + 1, done, a, w => WRun P r ops D [] (fun a w => ∀ e ∈ nexts ops eff done, SK P r ops e (fun a' w' => D w' ∧ WT P r ops D m eff K n (done ++ [e]) a' w') a w) (newReads ops m eff done) a w
def looksOk (ops : Array Oper) (pre : List Nat) (i : Nat) : Bool := match ops[i]? with | some o => (o.looksAt ops).all fun t => lastW ops pre t == srcOf ops i t | none => false
def treeOk (ops : Array Oper) (m : Nat) (eff : List Nat) : Nat → List Nat → List Nat → Bool
  | 0, done, pre => srcsOk ops pre (newReads ops m eff done) && nodupB (pre ++ newReads ops m eff done) && (List.range m).all (fun i => (pre ++ newReads ops m eff done).contains i) &&
      ((List.range m).all fun j => match dstAt ops j with | some t => lastW ops (pre ++ newReads ops m eff done) t == srcOf ops m t | none => true)
  | n + 1, done, pre => srcsOk ops pre (newReads ops m eff done) && nodupB (pre ++ newReads ops m eff done) &&
      (nexts ops eff done).all fun e => looksOk ops (pre ++ newReads ops m eff done) e && !(pre ++ newReads ops m eff done).contains e && treeOk ops m eff n (done ++ [e]) (pre ++ newReads ops m eff done ++ [e])
section
variable {P : Program} {r : Option Nat} {ops : Array Oper} {Q : Exit → Act → World → Prop} {K : Act → World → Prop} {D : World → Prop} {N : Nat} {eff : List Nat}
theorem nodup_len : ∀ (l k : List Nat), l.Nodup → (∀ x ∈ l, x ∈ k) → l.length ≤ k.length := by
  intro l
  induction l with
  | nil => intro k _ _; simp
  | cons x l ih =>
    intro k hn hs
    have hx := hs x (List.mem_cons_self ..)
    have hn' := List.nodup_cons.1 hn
    have := ih (k.erase x) hn'.2 (fun y hy => by
      have hne : y ≠ x := fun e => hn'.1 (e ▸ hy)
      exact (List.mem_erase_of_ne hne).2 (hs y (List.mem_cons_of_mem _ hy)))
    rw [List.length_erase_of_mem hx] at this
    have hpos : 0 < k.length := List.length_pos_of_mem hx
    simp; omega
theorem nodup_all {l k : List Nat} (hn : l.Nodup) (hs : ∀ x ∈ l, x ∈ k) (hl : k.length ≤ l.length) : ∀ x ∈ k, x ∈ l := by
  intro x hx
  by_cases h : x ∈ l
  · exact h
  · have := nodup_len (x :: l) k (List.nodup_cons.2 ⟨h, hn⟩) (fun y hy => by
      rcases List.mem_cons.1 hy with rfl | hy
      · exact hx
      · exact hs y hy)
    simp at this
    omega
theorem ancB_spec {e i : Nat} (h : ancB ops e i = true) : Anc ops e i := testBit_anc h
theorem srcsOk_cons {pre : List Nat} {i : Nat} {l : List Nat} (h : srcsOk ops pre (i :: l) = true) : looksOk ops pre i = true ∧ srcsOk ops (pre ++ [i]) l = true := by
  rw [srcsOk, Bool.and_eq_true] at h
  exact h
theorem looksOk_spec {pre : List Nat} {i : Nat} {o : Oper} (h : looksOk ops pre i = true) (ho : ops[i]? = some o) : ∀ t ∈ o.looksAt ops, lastW ops pre t = srcOf ops i t := by
  unfold looksOk at h
  rw [ho] at h
  intro t ht
  simpa using List.all_eq_true.1 h t ht
theorem nodup_append_notin {l : List Nat} {i : Nat} {k : List Nat} (h : (l ++ i :: k).Nodup) : i ∉ l := by
  intro hi
  have := (List.nodup_append.1 h).2.2 i hi i (List.mem_cons_self ..)
  exact this rfl
/-- What is known once the operations of l, in this order, have been told: the readings among them hold for good. -/
def ReadV (P : Program) (r : Option Nat) (ops : Array Oper) (D : World → Prop) (a : Act) (vals : Nat → Value) (i : Nat) : Prop :=
  ∃ o, ops[i]? = some o ∧ ∀ a' w', (∀ t ∈ o.looksAt ops, a'.tmps.getD t undef = slotOf ops a vals i t) → D w' → OpG P r ops o a' w' (fun v' w'' => v' = vals i ∧ w'' = w')
/-- The sources of all that was told were told before it. -/
def Told (ops : Array Oper) (l : List Nat) : Prop := ∀ pre i post, l = pre ++ i :: post → looksOk ops pre i = true
theorem Told.snoc {l : List Nat} {i : Nat} (h : Told ops l) (hi : looksOk ops l i = true) : Told ops (l ++ [i]) := by
  intro pre j post e
  rcases List.eq_nil_or_concat post with rfl | ⟨q, x, rfl⟩
  · have := List.append_inj' e (by simp)
    obtain ⟨e1, e2⟩ := this
    cases e2
    rw [← e1]; exact hi
  · rw [List.concat_eq_append, ← List.cons_append, ← List.append_assoc] at e
    obtain ⟨e1, _⟩ := List.append_inj' e (by simp)
    exact h pre j q e1
theorem readV_mono {a : Act} {l : List Nat} (ht : Told ops l) {vals vals' : Nat → Value} (hv : ∀ i ∈ l, vals' i = vals i) {i : Nat} (hi : i ∈ l) (h : ReadV P r ops D a vals i) : ReadV P r ops D a vals' i := by
  obtain ⟨o, ho, h⟩ := h
  obtain ⟨pre, post, e⟩ := List.append_of_mem hi
  refine ⟨o, ho, fun a' w' hs hw => ?_⟩
  rw [hv i hi]
  refine h a' w' (fun t htt => ?_) hw
  rw [hs t htt]
  unfold slotOf
  have hl := looksOk_spec (ht pre i post e) ho t htt
  cases hs : srcOf ops i t with
  | none => rfl
  | some j =>
    rw [hs] at hl
    exact hv j (by rw [e]; exact List.mem_append_left _ (lastW_mem hl).1)
/-- Readings are told, one after the other. -/
theorem absorbR {l0 : List Nat} {a : Act} {K : Act → World → Prop} {w : World} (hdst : dstOk ops N = true) (hsz : ∀ i ∈ l0, i < ops.size) : ∀ (rs : List Nat) (pre : List Nat) (vals : Nat → Value) (b : Act), (∀ i ∈ rs, i ∈ l0) → srcsOk ops pre rs = true → (pre ++ rs).Nodup → Told ops pre →
    FIs ops N a vals pre b → (∀ i ∈ pre, i ∉ eff → ReadV P r ops D a vals i) → (∀ i ∈ rs, i ∉ eff) → WRun P r ops D [] K rs b w →
    ∃ vals' b', (∀ i ∈ pre, vals' i = vals i) ∧ FIs ops N a vals' (pre ++ rs) b' ∧ (∀ i ∈ pre ++ rs, i ∉ eff → ReadV P r ops D a vals' i) ∧ Told ops (pre ++ rs) ∧ K b' w := by
  intro rs
  induction rs with
  | nil => intro pre vals b _ _ _ ht hb hr _ hw; exact ⟨vals, b, fun _ _ => rfl, by simpa using hb, by simpa using hr, by simpa using ht, hw⟩
  | cons i rs ih =>
    intro pre vals b hl0 hs hnd ht hb hr hne hw
    obtain ⟨h1, h2⟩ := srcsOk_cons hs
    rw [WRun] at hw
    simp only [List.contains_nil, cond_false] at hw
    obtain ⟨v, hrd, hw⟩ := hw
    have hni := nodup_append_notin hnd
    have hag : ∀ j ∈ pre, updV vals i v j = vals j := fun j hj => by
      have : j ≠ i := fun e => hni (e ▸ hj)
      simp [updV, this]
    have hb' := hb.put (v := v) hdst (hsz i (hl0 i (List.mem_cons_self ..))) hni
    have ht' := ht.snoc h1
    obtain ⟨vals', b', k1, k2, k3, k4, k5⟩ := ih (pre ++ [i]) (updV vals i v) _ (fun j hj => hl0 j (List.mem_cons_of_mem _ hj)) h2 (by simpa using hnd) ht' hb' (fun j hj hje => by
      rcases List.mem_append.1 hj with hj | hj
      · exact readV_mono ht hag hj (hr j hj hje)
      · simp at hj
        subst hj
        obtain ⟨o, ho, hro⟩ := hrd
        refine ⟨o, ho, fun a' w' hs hw' => ?_⟩
        have : updV vals j v j = v := by simp [updV]
        rw [this]
        refine hro a' w' (fun t htt => ?_) hw'
        rw [hs t htt, hb.slot t]
        unfold slotOf
        have hl := looksOk_spec h1 ho t htt
        rw [hl]
        cases hs : srcOf ops j t with
        | none => rfl
        | some q =>
          rw [hs] at hl
          exact hag q (lastW_mem hl).1) (fun j hj => hne j (List.mem_cons_of_mem _ hj)) hw
    refine ⟨vals', b', fun j hj => ?_, by simpa using k2, by simpa using k3, by simpa using k4, k5⟩
    rw [k1 j (List.mem_append_left _ hj), hag j hj]
theorem region_tree {id : Nat} (m : Nat) (eff : List Nat) {a : Act} {w : World} (hmo : P.follows .mixedOrders = true) (hck : (dstOk ops N && ordOk ops m && tailOk ops m && edgesOk ops && Nat.ble m ops.size && treeOk ops m eff eff.length [] [] && eff.all (fun e => Nat.blt e m && (match ops[e]? with | some o => plainOp o.op | none => false)) && nodupB eff) = true) (hN : a.tmps.size = N)
    (hD : D { w with drawn := w.drawn + 1 }) (h : WT P r ops D m eff (fun a w => WI P r ops Q m a w) eff.length [] a { w with drawn := w.drawn + 1 }) : WP P r (.region id ops true) Q a w := by
  simp only [Bool.and_eq_true] at hck
  obtain ⟨⟨⟨⟨⟨⟨⟨h1, h2⟩, h3⟩, h4⟩, h5⟩, h6⟩, h7⟩, h8⟩ := hck
  have hmn := Nat.le_of_ble_eq_true h5
  have heff : ∀ e ∈ eff, e < m ∧ ∀ o, ops[e]? = some o → plainOp o.op = true := fun e he => by
    have := List.all_eq_true.1 h7 e he
    rw [Bool.and_eq_true] at this
    exact ⟨Nat.blt_eq.mp this.1, fun o ho => by have := this.2; rw [ho] at this; exact this⟩
  have hnde := nodupB_spec h8
  have newR : ∀ done i, i ∈ newReads ops m eff done → i < m ∧ i ∉ eff := by
    intro done i hi
    unfold newReads at hi
    have := List.mem_filter.1 hi
    simp only [Bool.and_eq_true] at this
    exact ⟨List.mem_range.1 this.1, by simpa using this.2.1.1⟩
  -- the state behind the effects done, in this order
  let St : Nat → List Nat → List Nat → (Nat → Value) → Act → World → Prop := fun n done pre vals b w =>
    FIs ops N a vals pre b ∧ (∀ i ∈ pre, i ∉ eff → ReadV P r ops D a vals i) ∧ Told ops pre ∧ pre.Nodup ∧ (∀ i ∈ pre, i < m) ∧ (∀ e ∈ eff, e ∈ pre ↔ e ∈ done) ∧ (∀ e ∈ done, e ∈ eff) ∧ done.Nodup ∧ done.length + n = eff.length ∧
    (∀ i, i < m → i ∉ eff → (∀ e ∈ eff, ancB ops e i = true → e ∈ done) → i ∈ pre) ∧
    (match n with
      | 0 => WI P r ops Q m b w ∧ ∀ t, lastW ops pre t = srcOf ops m t
      | n + 1 => (∀ e ∈ nexts ops eff done, SK P r ops e (fun a' w' => D w' ∧ WT P r ops D m eff (fun a w => WI P r ops Q m a w) n (done ++ [e]) a' w') b w) ∧ ∀ e ∈ nexts ops eff done, looksOk ops pre e = true ∧ e ∉ pre ∧ treeOk ops m eff n (done ++ [e]) (pre ++ [e]) = true)
  have enter : ∀ n done pre vals b w, FIs ops N a vals pre b → (∀ i ∈ pre, i ∉ eff → ReadV P r ops D a vals i) → Told ops pre → (∀ i ∈ pre, i < m) → (∀ e ∈ eff, e ∈ pre ↔ e ∈ done) → (∀ e ∈ done, e ∈ eff) → done.Nodup → done.length + n = eff.length →
      (∀ i, i < m → i ∉ eff → (∀ e ∈ eff, ancB ops e i = true → e ∈ done) → i ∈ pre ++ newReads ops m eff done) → treeOk ops m eff n done pre = true → WT P r ops D m eff (fun a w => WI P r ops Q m a w) n done b w →
      ∃ vals' b', (∀ i ∈ pre, vals' i = vals i) ∧ St n done (pre ++ newReads ops m eff done) vals' b' w := by
    intro n done pre vals b w hb hr ht hlt hed hde hdn hdl hall hok hw
    have hne : ∀ i ∈ newReads ops m eff done, i ∉ eff := fun i hi => (newR done i hi).2
    have hl0 : ∀ i ∈ newReads ops m eff done, i < ops.size := fun i hi => by have := (newR done i hi).1; omega
    have hlt' : ∀ i ∈ pre ++ newReads ops m eff done, i < m := fun i hi => by
      rcases List.mem_append.1 hi with hi | hi
      · exact hlt i hi
      · exact (newR done i hi).1
    have hed' : ∀ e ∈ eff, e ∈ pre ++ newReads ops m eff done ↔ e ∈ done := fun e he => by
      rw [List.mem_append, hed e he]
      exact ⟨fun h => h.elim (fun h => h) (fun h => absurd he (hne e h)), .inl⟩
    cases n with
    | zero =>
      simp only [treeOk, Bool.and_eq_true] at hok
      obtain ⟨⟨⟨o1, o2⟩, o3⟩, o4⟩ := hok
      have hnd := nodupB_spec o2
      rw [WT] at hw
      obtain ⟨vals', b', k1, k2, k3, k4, k5⟩ := absorbR (l0 := newReads ops m eff done) (eff := eff) h1 hl0 _ pre vals b (fun _ h => h) o1 hnd ht hb hr hne hw
      refine ⟨vals', b', k1, k2, k3, k4, hnd, hlt', hed', hde, hdn, hdl, hall, k5, fun t => ?_⟩
      cases hs : srcOf ops m t with
      | some j =>
        obtain ⟨hjm, hdj, _⟩ := srcOf_some hs
        have := List.all_eq_true.1 o4 j (List.mem_range.2 hjm)
        rw [hdj] at this
        rw [← hs]
        simpa using this
      | none =>
        cases hl : lastW ops (pre ++ newReads ops m eff done) t with
        | none => rfl
        | some j =>
          obtain ⟨hjl, hdj⟩ := lastW_mem hl
          exact absurd hdj (srcOf_none hs j (hlt' j hjl))
    | succ n =>
      simp only [treeOk, Bool.and_eq_true] at hok
      obtain ⟨⟨o1, o2⟩, o3⟩ := hok
      have hnd := nodupB_spec o2
      rw [WT] at hw
      obtain ⟨vals', b', k1, k2, k3, k4, k5⟩ := absorbR (l0 := newReads ops m eff done) (eff := eff) h1 hl0 _ pre vals b (fun _ h => h) o1 hnd ht hb hr hne hw
      refine ⟨vals', b', k1, k2, k3, k4, hnd, hlt', hed', hde, hdn, hdl, hall, k5, fun e he => ?_⟩
      have := List.all_eq_true.1 o3 e he
      simp only [Bool.and_eq_true] at this
      exact ⟨this.1.1, by simpa using this.1.2, this.2⟩
  let G : (Nat → Bool) → (Nat → Value) → World → Prop := fun S σ w => ∃ n done pre vals b, St n done pre vals b w ∧ D w ∧ (∀ i, S i = true → i ∈ pre) ∧ (∀ e ∈ done, S e = true) ∧ (∀ i, S i = true → σ i = vals i)
  refine region_anyG (N := N) (m := m) (G := G) hmo h1 h2 h3 h4 hmn ?_ hN ?_ (fun _ => undef) ?_ ?_
  · intro S σ a1 w1 i o him ho hSi hanc hcl hlow hsz hdf hG hlook
    obtain ⟨n, done, pre, vals, b, ⟨s1, s2, s3, s4, s5, s6, s7, s8, s9, s10, s11⟩, g1, g2, g3, g4⟩ := hG
    have hsrc : ∀ t ∈ o.looksAt ops, ∀ j, srcOf ops i t = some j → S j = true := by
      intro t ht j hj
      obtain ⟨hji, hdj, _⟩ := srcOf_some hj
      obtain ⟨xo, hxo, hxd⟩ := dstAt_oper hdj
      rcases ordOk_spec h2 hji him hxo ho with hap | hA
      · exact absurd ht ((Oper.apart_spec hap).1 t hxd)
      · exact hanc j hA
    have hslot : ∀ t ∈ o.looksAt ops, a1.tmps.getD t undef = slotOf ops a vals i t := by
      intro t ht
      rw [hlook t ht]
      unfold slotOf
      cases hl : srcOf ops i t with
      | none => rfl
      | some j => exact g4 j (hsrc t ht j hl)
    by_cases hie : i ∈ eff
    · -- an effect: all effects it comes behind are done
      have hdone : ∀ e ∈ eff, ancB ops e i = true → e ∈ done := fun e he hA => (s6 e he).1 (g2 e (hanc e (ancB_spec hA)))
      have hid : i ∉ done := fun hd => by have := g3 i hd; rw [hSi] at this; cases this
      have hnx : i ∈ nexts ops eff done := by
        unfold nexts
        refine List.mem_filter.2 ⟨hie, ?_⟩
        rw [Bool.and_eq_true]
        refine ⟨by simpa using hid, List.all_eq_true.2 fun d hd => ?_⟩
        cases hA : ancB ops d i with
        | false => simp
        | true => simpa using hdone d hd hA
      cases n with
      | zero =>
        exfalso
        have hp : done.length = eff.length := by omega
        have hsub : ∀ x ∈ done, x ∈ eff := s7
        -- done has all of eff
        have : i ∈ done := by
          exact nodup_all s8 hsub (by omega) i hie
        exact hid this
      | succ n =>
        obtain ⟨hstep, hlk⟩ := s11
        obtain ⟨l1, l2, l3⟩ := hlk i hnx
        obtain ⟨o', ho', hop⟩ := hstep i hnx
        rw [ho] at ho'
        cases ho'
        have hop' := OpG_congr (a' := a1) ((heff i hie).2 o ho) (by rw [hsz, s1.size]) (fun t ht => by
          rw [hslot t ht, s1.slot t, looksOk_spec l1 ho t ht]; rfl) hop
        refine hop'.mono ?_
        rintro v w' ⟨hDw, hw⟩
        have hag : ∀ j ∈ pre, updV vals i v j = vals j := fun j hj => by
          have : j ≠ i := fun e => l2 (e ▸ hj)
          simp [updV, this]
        have hb' := s1.put (v := v) h1 (by omega) l2
        have hdo : o.dst = dstAt ops i := by simp [dstAt, ho]
        rw [hdo] at hw
        obtain ⟨vals', b', k1, k2⟩ := enter n (done ++ [i]) (pre ++ [i]) (updV vals i v) _ w' hb' (fun j hj hje => by
            rcases List.mem_append.1 hj with hj | hj
            · exact readV_mono s3 hag hj (s2 j hj hje)
            · simp at hj; subst hj; exact absurd hie hje) (s3.snoc l1) (fun j hj => by
            rcases List.mem_append.1 hj with hj | hj
            · exact s5 j hj
            · simp at hj; subst hj; exact him) (fun e he => by rw [List.mem_append, List.mem_append, s6 e he]) (fun e he => by
            rcases List.mem_append.1 he with he | he
            · exact s7 e he
            · simp at he; subst he; exact hie) (List.nodup_append.2 ⟨s8, by simp, fun x hx y hy => by simp at hy; subst hy; exact fun e => hid (e ▸ hx)⟩) (by simp; omega) (fun j hj hje hAj => by
            by_cases hold : ∀ e ∈ eff, ancB ops e j = true → e ∈ done
            · exact List.mem_append_left _ (List.mem_append_left _ (s10 j hj hje hold))
            · refine List.mem_append_right _ ?_
              unfold newReads
              refine List.mem_filter.2 ⟨List.mem_range.2 hj, ?_⟩
              have hij : ancB ops i j = true := by
                simp only [Classical.not_forall] at hold
                obtain ⟨e, he, hAe, hed⟩ := hold
                rcases List.mem_append.1 (hAj e he hAe) with h' | h'
                · exact absurd h' hed
                · simp at h'; subst h'; exact hAe
              simp only [Bool.and_eq_true]
              refine ⟨⟨by simpa using hje, List.all_eq_true.2 fun e he => ?_⟩, by simpa using hij⟩
              cases hAe : ancB ops e j with
              | false => simp
              | true => simpa using hAj e he hAe) l3 hw
        refine ⟨n, done ++ [i], _, vals', b', k2, hDw, fun j hj => ?_, fun e he => ?_, fun j hj => ?_⟩
        · rcases Bool.or_eq_true _ _ ▸ hj with hj | hj
          · exact List.mem_append_left _ (List.mem_append_left _ (g2 j hj))
          · rw [Nat.beq_eq] at hj; subst hj; exact List.mem_append_left _ (by simp)
        · rcases List.mem_append.1 he with he | he
          · simp [g3 e he]
          · simp at he; subst he; simp
        · rcases Bool.or_eq_true _ _ ▸ hj with hj | hj
          · have hjl := g2 j hj
            have hji : j ≠ i := fun e => l2 (e ▸ hjl)
            rw [k1 j (List.mem_append_left _ hjl), hag j hjl]
            simp [updV, hji, g4 j hj]
          · rw [Nat.beq_eq] at hj
            subst hj
            rw [k1 j (by simp)]
            simp [updV]
    · have hip : i ∈ pre := s10 i him hie (fun e he hA => (s6 e he).1 (g2 e (hanc e (ancB_spec hA))))
      obtain ⟨o', ho', hr⟩ := s2 i hip hie
      rw [ho] at ho'
      cases ho'
      refine (hr a1 w1 hslot g1).mono ?_
      rintro v w' ⟨rfl, rfl⟩
      refine ⟨n, done, pre, vals, b, ⟨s1, s2, s3, s4, s5, s6, s7, s8, s9, s10, s11⟩, g1, fun j hj => ?_, fun e he => by simp [g3 e he], fun j hj => ?_⟩
      · rcases Bool.or_eq_true _ _ ▸ hj with hj | hj
        · exact g2 j hj
        · rw [Nat.beq_eq] at hj; subst hj; exact hip
      · rcases Bool.or_eq_true _ _ ▸ hj with hj | hj
        · by_cases hji : j = i
          · subst hji; simp [updV]
          · simp [updV, hji, g4 j hj]
        · rw [Nat.beq_eq] at hj; subst hj; simp [updV]
  · intro S S' σ w1 hSS hG
    have : S = S' := funext hSS
    rw [← this]; exact hG
  · obtain ⟨vals', b', k1, k2⟩ := enter eff.length [] [] (fun _ => undef) a _ ⟨hN, rfl, fun t => by simp [lastW]⟩ (fun i hi => by simp at hi) (fun pre i post e => by simp at e) (fun i hi => by simp at hi) (fun e he => by simp) (fun e he => by simp at he) List.nodup_nil (by simp) (fun i hi hie hA => by
        refine List.mem_append_right _ (List.mem_filter.2 ⟨List.mem_range.2 hi, ?_⟩)
        simp only [Bool.and_eq_true]
        refine ⟨⟨by simpa using hie, List.all_eq_true.2 fun e he => ?_⟩, rfl⟩
        cases hAe : ancB ops e i with
        | false => simp
        | true => exact absurd (hA e he hAe) (by simp)) h6 h
    exact ⟨_, _, _, vals', b', k2, hD, fun i hi => by simp at hi, fun e he => by simp at he, fun i hi => by simp at hi⟩
  · intro a' w' σ hNa hdf hG hslots
    obtain ⟨n, done, pre, vals, b, ⟨s1, s2, s3, s4, s5, s6, s7, s8, s9, s10, s11⟩, g1, g2, g3, g4⟩ := hG
    have hn : n = 0 := by
      have hsub : ∀ e ∈ eff, e ∈ done := fun e he => (s6 e he).1 (g2 e (Nat.blt_eq.mpr (heff e he).1))
      have := nodup_len eff done hnde hsub
      omega
    subst hn
    obtain ⟨hWI, hfin⟩ := s11
    have hab : a' = b := by
      have ht : a'.tmps = b.tmps := by
        refine Array.ext (by rw [hNa, s1.size]) (fun t ht1 ht2 => ?_)
        have e1 := hslots t
        have e2 := s1.slot t
        have hsl : slotOf ops a σ m t = (match lastW ops pre t with | some j => vals j | none => a.tmps.getD t undef) := by
          rw [hfin t]
          unfold slotOf
          cases hs : srcOf ops m t with
          | none => rfl
          | some j => exact g4 j (Nat.blt_eq.mpr (srcOf_some hs).1)
        replace e1 : a'.tmps.getD t undef = b.tmps.getD t undef := e1.trans (hsl.trans e2.symm)
        rw [Array.getD_eq_getD_getElem?, Array.getD_eq_getD_getElem?, Array.getElem?_eq_getElem ht1, Array.getElem?_eq_getElem ht2] at e1
        simpa using e1
      cases a'; cases b
      simp only at ht
      subst ht
      have := hdf.trans s1.dfs.symm
      simp only at this
      rw [this]
    rw [hab]; exact hWI
theorem WRun.mono {K K' : Act → World → Prop} (hK : ∀ a w, K a w → K' a w) : ∀ {l : List Nat} {a : Act} {w : World}, WRun P r ops D [] K l a w → WRun P r ops D [] K' l a w := by
  intro l
  induction l with
  | nil => intro a w h; exact hK a w h
  | cons i l ih =>
    intro a w h
    rw [WRun] at h ⊢
    simp only [List.contains_nil, cond_false] at h ⊢
    obtain ⟨v, h1, h2⟩ := h
    exact ⟨v, h1, ih h2⟩
theorem SK.mono {k : Nat} {K K' : Act → World → Prop} {a : Act} {w : World} (hK : ∀ a w, K a w → K' a w) (h : SK P r ops k K a w) : SK P r ops k K' a w := by
  obtain ⟨o, ho, h⟩ := h
  exact ⟨o, ho, h.mono fun _ _ => hK _ _⟩
theorem WT.mono {m : Nat} {K K' : Act → World → Prop} (hK : ∀ a w, K a w → K' a w) : ∀ {n : Nat} {done : List Nat} {a : Act} {w : World}, WT P r ops D m eff K n done a w → WT P r ops D m eff K' n done a w := by
  intro n
  induction n with
  | zero => intro done a w h; rw [WT] at h ⊢; exact WRun.mono hK h
  | succ n ih =>
    intro done a w h
    rw [WT] at h ⊢
    exact WRun.mono (fun a w h e he => (h e he).mono fun a w h => ⟨h.1, ih h.2⟩) h
theorem region_treeJ {id : Nat} (m : Nat) (eff : List Nat) (J : Act → World → Prop) {a : Act} {w : World} (hmo : P.follows .mixedOrders = true) (hck : (dstOk ops N && ordOk ops m && tailOk ops m && edgesOk ops && Nat.ble m ops.size && treeOk ops m eff eff.length [] [] && eff.all (fun e => Nat.blt e m && (match ops[e]? with | some o => plainOp o.op | none => false)) && nodupB eff) = true) (hN : a.tmps.size = N)
    (hD : D { w with drawn := w.drawn + 1 }) (h : WT P r ops D m eff J eff.length [] a { w with drawn := w.drawn + 1 }) (hJ : ∀ a w, J a w → WI P r ops Q m a w) : WP P r (.region id ops true) Q a w :=
  region_tree m eff hmo hck hN hD (WT.mono hJ h)
theorem WT.z {m : Nat} {done : List Nat} {a : Act} {w : World} (rs : List Nat) (hr : newReads ops m eff done = rs) (h : WRun P r ops D [] K rs a w) : WT P r ops D m eff K 0 done a w := by rw [WT, hr]; exact h
theorem WT.s {m n : Nat} {done : List Nat} {a : Act} {w : World} (rs es : List Nat) (hr : newReads ops m eff done = rs) (hx : nexts ops eff done = es)
    (h : WRun P r ops D [] (fun a w => ∀ e ∈ es, SK P r ops e (fun a' w' => D w' ∧ WT P r ops D m eff K n (done ++ [e]) a' w') a w) rs a w) : WT P r ops D m eff K (n + 1) done a w := by rw [WT, hr, hx]; exact h
theorem all_nil {p : Nat → Prop} : ∀ e ∈ ([] : List Nat), p e := fun e h => by simp at h
theorem all_cons {p : Nat → Prop} {x : Nat} {l : List Nat} (h : p x) (t : ∀ e ∈ l, p e) : ∀ e ∈ x :: l, p e := fun e he => by
  rcases List.mem_cons.1 he with rfl | he
  · exact h
  · exact t e he
theorem region_treeW {id : Nat} (m : Nat) (eff : List Nat) (J : Act → World → Prop) {a : Act} {w : World} (hmo : P.follows .mixedOrders = true) (hck : (dstOk ops N && ordOk ops m && tailOk ops m && edgesOk ops && Nat.ble m ops.size && treeOk ops m eff eff.length [] [] && eff.all (fun e => Nat.blt e m && (match ops[e]? with | some o => plainOp o.op | none => false)) && nodupB eff) = true) (hN : a.tmps.size = N)
    (h : ∀ w1, Ext w w1 → D w1 ∧ WT P r ops D m eff J eff.length [] a w1) (hJ : ∀ a w, J a w → WI P r ops Q m a w) : WP P r (.region id ops true) Q a w :=
  region_treeJ m eff J hmo hck hN (h _ (ext_drew w)).1 (h _ (ext_drew w)).2 hJ
theorem fn_enterW {f : FuncId} {fn : Func} {c : Code} {args : Array Value} {R : Ending → World → Prop} {w : World} (hf : P.funcs[f]? = some fn) (hb : fn.body = some c) (N : Nat) (M : List (Nat × Value)) (hN : fn.ntmps = N)
    (hsz : Nat.ble args.size N = true) (hM : M.map (fun p => (args ++ Array.replicate (N - args.size) undef).getD p.1 undef) = M.map Prod.snd) (h : ∀ a w1, w1 = w → Fr N [] M a → WP P none c (bodyPost P fn R) a w1) : Calls P f args w R :=
  fn_enter hf hb N M hN hsz hM fun a => h a w rfl
theorem obNo {T : World → World → Prop} {cs : List Cd} {s : Sem Value} {v : Value} (h : condsOk cs = false) : Ob.ok P T D (.run cs s v) := fun hk => by rw [h] at hk; cases hk
theorem conds_no {cs : List Cd} {i : Nat} {c : Cd} (hi : cs[i]? = some c) (h : (c.p == c.want) = false) : condsOk cs = false := by
  cases hk : condsOk cs with
  | false => rfl
  | true =>
    have := condsOk_iff.1 hk c (List.mem_of_getElem? hi)
    rw [this] at h
    simp at h
end
end Go.Eng
/- The engine, part 18: ranging over functions, for plain programs. -/
namespace Go.Eng
open Go Go.RowKit
section
variable {P : Program} {ops : Array Oper} {Q : Exit → Act → World → Prop} {N : Nat} {ds : List Deferred} {M : List (Nat × Value)} {a : Act} {w w0 : World} {H : List Res}
theorem rangeG {g : Nat} {ps : Array Tmp} {assign body : Code} {gf : FuncId} {lb : Array Value} (args : Nat → Array Value) (N1 : List Res → Prop) (N2 : Code → List Res → Prop) (hF : Fr N ds M a) (hg : lookM M g = some (.func (.func gf) #[] lb)) (hS : St w0 H w)
    (hargs : ∀ l, #[.func (.yield l) #[] #[]] ++ lb = args l) (hent : ∀ args, pureSem P (callFunc gf args) = some (.enter gf args))
    (hcall : ∀ fn l D rec w1, rec = recL a ps assign body D fn → St w0 (objR l (rec .ready none) :: objR D (.deferred (some [])) :: H) w1 →
      Calls P gf (args l) w1 (fun e w3 => ∃ v, e = .returned v ∧
        ((∃ H1, N1 H1 ∧ St w0 (objR l (rec .ready none) :: objR D (.deferred (some [])) :: H1) w3) ∨ ∃ c H2, N2 c H2 ∧ St w0 (objR l (rec .done (some c)) :: objR D (.deferred (some [])) :: H2) w3)))
    (hdone : ∀ D a' w' H1, N1 H1 → Fr N (⟨.collected D, #[]⟩ :: ds) M a' → St w0 (objR D (.deferred (some [])) :: H1) w' → Q .normal a' w')
    (hstop : ∀ D c a' w' H2, N2 c H2 → Fr N (⟨.collected D, #[]⟩ :: ds) M a' → St w0 (objR D (.deferred (some [])) :: H2) w' → WP P none c Q a' w') : WP P none (.rangeFunc (.tmp g) ps assign body) Q a w := by
  refine wpIn_rangeFunc ?_
  intro fn hfn
  rw [show (F0 none).round = none from rfl]
  obtain ⟨W1, hW1⟩ : ∃ W1, (w.alloc (.deferred (some []))).alloc (recL a ps assign body w.heap.size fn .ready none) = W1 := ⟨_, rfl⟩
  have hE : (Instr.enterLoop fn a.tmps ps assign body none).run P w = .ok (w.heap.size + 1, [{ target := .collected w.heap.size, args := #[] }]) W1 := by rw [← hW1]; exact run_enterLoop_outer _ _ _ _ _
  refine ⟨w.heap.size + 1, [{ target := .collected w.heap.size, args := #[] }], W1, { target := .fn (.func gf) lb, args := #[.func (.yield (w.heap.size + 1)) #[] #[]] }, W1, gf,
    #[.func (.yield (w.heap.size + 1)) #[] #[]] ++ lb, W1, hE, ?_, fun _ _ => trivial, ?_, fun h => by simp [F0, Fence.wide] at h, ?_⟩
  · have hge : a.eval (.tmp g) = .func (.func gf) #[] lb := hF.get hg
    simp only [resolve, hge]
    simp [go_sem]
  · simp only [invoke]
    exact pureSem_run _ _ (hent _) _
  · rw [hargs]
    refine callsIn_F0.2 (Calls.mono (hcall fn (w.heap.size + 1) w.heap.size _ W1 rfl ?_) ?_)
    · rw [← hW1]
      have h1 := (hS.allocObj (.deferred (some []))).allocObj (recL a ps assign body w.heap.size fn .ready none)
      simpa using h1
    · rintro e w3 ⟨v, rfl, h⟩
      have fr : Fr N (⟨.collected w.heap.size, #[]⟩ :: ds) M { a with defers := [{ target := .collected w.heap.size, args := #[] }] ++ a.defers } := ⟨hF.size, by simp [hF.defers], hF.slot⟩
      rcases h with ⟨H1, hN1, h⟩ | ⟨c, H2, hN2, h⟩
      · have hl := h.res (i := 0) rfl
        refine ⟨none, _, run_endLoop (P := P) hl (by simp), ?_⟩
        exact hdone _ _ _ _ hN1 fr (h.putObj (i := 0) _ rfl).drop1
      · have hl := h.res (i := 0) rfl
        refine ⟨some c, _, run_endLoop (P := P) hl (by simp), ?_⟩
        exact hstop _ c _ _ _ hN2 fr (h.putObj (i := 0) _ rfl).drop1
theorem fn_enterMW {f : FuncId} {fn : Func} {c : Code} {args : Array Value} {R : Ending → World → Prop} (hf : P.funcs[f]? = some fn) (hb : fn.body = some c) (N : Nat) (M : List (Nat × Value)) (hN : fn.ntmps = N)
    (hsz : Nat.ble args.size N = true) (hM : M.map (fun p => (args ++ Array.replicate (N - args.size) undef).getD p.1 undef) = M.map Prod.snd) (h : ∀ a w1, w1 = w → Fr N (marks []) M a → WP P none c (bodyPostM (F0 none) 0 P fn R) a w1) : Calls P f args w R :=
  fn_enterM hf hb N M hN hsz hM fun a => h a w rfl
end
end Go.Eng
namespace Go.Eng
open Go Go.RowKit
section
variable {w w0 : World} {A R G : List Res} {f : Res}
theorem St.rot (A : List Res) (h : St w0 (A ++ (f :: (R ++ G))) w) : St w0 (f :: (R ++ (G ++ A))) w :=
  h.perm (by
    have : (A ++ (f :: (R ++ G))).Perm ((f :: (R ++ G)) ++ A) := List.perm_append_comm
    simpa [List.append_assoc] using this)
theorem St.unrot (A : List Res) (h : St w0 (f :: (R ++ (G ++ A))) w) : St w0 (A ++ (f :: (R ++ G))) w :=
  h.perm (by
    have : ((f :: (R ++ G)) ++ A).Perm (A ++ (f :: (R ++ G))) := List.perm_append_comm
    simpa [List.append_assoc] using this)
end
end Go.Eng
/- The engine, part D8: segments that leave slots whose guards are known to be met. -/
namespace Go.Eng
open Go Go.RowKit
set_option linter.unusedVariables false
set_option linter.unusedSimpArgs false
structure EndsC (P : Program) (ops : Array Oper) (n k : Nat) (M : List (Nat × Value)) (M' : List (Nat × En)) (obs : List Ob) : Prop where
  eq : ((evalSeg P ops n k (ofM M) (obs.map Ob.v)).map fun x => (M'.map (fun p => lookE x.1 p.1), x.2)) = some (M'.map (fun p => some p.2), obs)
section
variable {P : Program} {r : Option Nat} {ops : Array Oper} {T : World → World → Prop} {Q : Exit → Act → World → Prop} {N : Nat} {ds : List Deferred} {M : List (Nat × Value)} {M' : List (Nat × En)} {a : Act} {w : World} {obs : List Ob}
theorem ends_specC {n k : Nat} (hT : Trans T) (h : EndsC P ops n k M M' obs) (hC : (M'.all fun p => condsOk p.2.conds) = true) (D : World → Prop) (hob : Obs P T D obs) : ∃ (Φ : List Asn), Φ.length = n ∧ Seg P r ops T D Φ k (toA (ofM M)) ∧ (∀ φ ∈ Φ, Stab T φ) ∧
    ∀ a' w', a'.tmps.size = N → a'.defers = ds → EnvOk (envL ops Φ k (toA (ofM M))) a' w' → Fr N ds (M'.map fun p => (p.1, p.2.v)) a' := by
  have h := h.eq
  cases hev : evalSeg P ops n k (ofM M) (obs.map Ob.v) with
  | none => rw [hev] at h; simp at h
  | some x =>
    obtain ⟨E', obs'⟩ := x
    rw [hev] at h
    simp only [Option.map_some, Option.some.injEq, Prod.mk.injEq] at h
    obtain ⟨h1, rfl⟩ := h
    obtain ⟨Φ, hl, hseg, hst, henv⟩ := evalSeg_spec (r := r) hT n k _ _ _ _ hev (coh_ofM M) hob
    refine ⟨Φ, hl, hseg, hst, fun a' w' hN hd hE => ⟨hN, hd, ?_⟩⟩
    intro q hq
    obtain ⟨p, hp, rfl⟩ := List.mem_map.1 hq
    rw [henv] at hE
    have hlk : lookE E' p.1 = some p.2 := List.map_inj_left.1 h1 p hp
    have := hE p.1 (fun v _ => v = p.2.val) (by rw [lookA_toA, hlk]; rfl)
    have hc := List.all_eq_true.1 hC p hp
    simpa [En.val, hc] using this
theorem run_C {n k : Nat} (k' : Nat) (M' : List (Nat × En)) (hF : Fr N ds M a) (hdst : dstOk ops N = true) (hob : Obs P (fun a b => b = a) (fun x => x = w) obs) (h : EndsC P ops n k M M' obs) (hC : (M'.all fun p => condsOk p.2.conds) = true) (hk : k + n = k')
    (next : ∀ a', Fr N ds (M'.map fun p => (p.1, p.2.v)) a' → WI P r ops Q k' a' w) : WI P r ops Q k a w := by
  obtain ⟨Φ, hl, hseg, hst, hfin⟩ := ends_specC (r := r) (N := N) (ds := ds) trans_eq h hC (fun x => x = w) hob
  refine seg_seq trans_eq (fun _ _ h k => k.trans h) hdst Φ k _ a w hseg hst (stab_toA _ _) rfl hF.size (envOk_ofM hF w) ?_
  intro a' w' hw hN hd hE
  subst hw
  rw [hl, hk]
  exact next a' (hfin a' w' hN (hd.trans hF.defers) hE)
end
end Go.Eng
/- The engine, part D9: panics, deferred calls, recover. -/
namespace Go.Eng
open Go Go.RowKit
set_option linter.unusedVariables false
set_option linter.unusedSimpArgs false
section
variable {P : Program} {r : Option Nat} {ops : Array Oper} {Q : Exit → Act → World → Prop} {K : Act → World → Prop} {N : Nat} {ds : List Deferred} {M M' : List (Nat × Value)} {a : Act} {w w0 w' : World} {H : List Res} {k : Nat}
end
end Go.Eng
/- The engine, part D10: which panics are caught. -/
namespace Go.Eng
open Go Go.RowKit
end Go.Eng
/- The engine, part D11: regions in whatever order whose effects stand under guards. -/
namespace Go.Eng
open Go Go.RowKit
set_option linter.unusedVariables false
section
variable {P : Program} {r : Option Nat} {ops : Array Oper} {D : World → Prop} {eff : List Nat} {K : Act → World → Prop} {N : Nat} {ds : List Deferred} {M M' : List (Nat × Value)} {a : Act} {w : World} {obs : List Ob} {k : Nat}
end
end Go.Eng
/- The engine, last part: arguments as they come in, read as plain data. -/
namespace Go.Eng
open Go Go.RowKit
section
variable {H : Type} {enc : TypeId × Value → H} {P : Program} {w : World} {α : Type} {t e : TypeId} {cs : List Value} {sz : Nat}
def Reads (enc : TypeId × Value → H) (P : Program) (w : World) (t : TypeId) (cs : List Value) : Prop := ∃ fuel d, DataW.trod enc P w 0 (fun _ => true) true fuel t cs = some d
theorem Reads.of {v : Value} {d : DataW H} {p : List MemPlace} (h : DataW.Trod enc P w 0 (fun _ => true) true t v d p) : Reads enc P w t v.cells.toList := by
  obtain ⟨f, h⟩ := h; exact ⟨f, _, h⟩
theorem Reads.int {k : IntKind} (ht : P.underlying t = some (.int k)) (h : Reads enc P w t cs) : ∃ n, cs = [.int k n] ∧ (Lit.int k n).wf = true := by
  obtain ⟨f, d, h⟩ := h
  obtain ⟨n, h1, _, h2⟩ := DataW.trod_int ht h
  exact ⟨n, h1, h2⟩
theorem Reads.bool (ht : P.underlying t = some .bool) (h : Reads enc P w t cs) : ∃ b, cs = [.bool b] := by
  obtain ⟨f, d, h⟩ := h
  cases f with
  | zero => simp [DataW.trod] at h
  | succ n =>
    unfold DataW.trod at h
    rw [ht] at h
    split at h <;> simp_all
theorem Reads.len {fs : Array Field} (ht : P.underlying t = some (.struct fs)) (h : Reads enc P w t cs) : cs.length = P.cellsOf t := by
  obtain ⟨f, d, h⟩ := h
  obtain ⟨_, _, _, _, hl, _⟩ := DataW.trod_struct ht h
  exact hl
theorem Reads.field {fs : Array Field} (ht : P.underlying t = some (.struct fs)) (h : Reads enc P w t cs) (i : Nat) {f : Field} (hf : fs[i]? = some f) (m : Nat) (hm : P.cellsOf f.type = m) : Reads enc P w f.type ((cs.drop f.offset).take m) := by
  obtain ⟨fu, d, h⟩ := h
  obtain ⟨xs, n, _, _, _, hx, hall⟩ := DataW.trod_struct ht h
  have hi : i < fs.size := (Array.getElem?_eq_some_iff.1 hf).1
  have := hall i f hf
  rw [List.getElem?_eq_getElem (by omega), hm] at this
  exact ⟨n, _, this⟩
theorem Reads.arrLen {n : Nat} (ht : P.underlying t = some (.array n e)) (h : Reads enc P w t cs) : cs.length = P.cellsOf t := by
  obtain ⟨f, d, h⟩ := h
  obtain ⟨_, _, _, _, hl, _⟩ := DataW.trod_array ht h
  exact hl
theorem Reads.part {n : Nat} (ht : P.underlying t = some (.array n e)) (h : Reads enc P w t cs) (i : Nat) (hi : i < n) (m : Nat) (hm : P.cellsOf e = m) : Reads enc P w e ((cs.drop (i * m)).take m) := by
  obtain ⟨fu, d, h⟩ := h
  obtain ⟨xs, q, _, _, _, hx, hall⟩ := DataW.trod_array ht h
  have := hall i hi
  rw [List.getElem?_eq_getElem (by omega), hm] at this
  exact ⟨q, _, this⟩
theorem all2_choose {β : Type} {R : β → α → Prop} {ok : α → Prop} : ∀ (css : List β), (∀ c ∈ css, ∃ x, R c x ∧ ok x) → ∃ l, All2 R css l ∧ ∀ x ∈ l, ok x
  | [], _ => ⟨[], .nil, by simp⟩
  | c :: css, h => by
    obtain ⟨x, hx, hk⟩ := h c (by simp)
    obtain ⟨l, hl, hl2⟩ := all2_choose css (fun c hc => h c (by simp [hc]))
    exact ⟨x :: l, .cons hx hl, by simpa using ⟨hk, hl2⟩⟩
/-- A slice that came in: where it lies, and its elements' cells. -/
theorem Reads.row (ht : P.underlying t = some (.slice e)) (hsz : P.cellsOf e = sz) (h0 : 0 < sz) (h : Reads enc P w t cs) :
    ∃ (ad : Option Addr) (cap : Nat) (css : List (List Value)), cs = [.slice ad css.length cap] ∧ ArrM (memOf w) sz (fN sz) ad cap css ∧ ∀ c ∈ css, c.length = sz ∧ Reads enc P w e c := by
  obtain ⟨f, d, h⟩ := h
  rcases DataW.trod_slice ht h with ⟨rfl, _⟩ | ⟨a, len, cap, elems, rest, n, _, rfl, _, _, hl, hm, hlen, hel, _, _⟩
  · exact ⟨none, 0, [], rfl, ArrM.nil, by simp⟩
  · rw [hsz] at hel
    have hget : ∀ i, i < len → ∃ c, w.cells? 0 (a.add (i * sz)) sz = some c ∧ Reads enc P w e c := by
      intro i hi
      have := hel i hi
      rw [List.getElem?_eq_getElem (by omega), Option.bind_eq_some_iff] at this
      obtain ⟨c, h1, h2⟩ := this
      exact ⟨c, h1, n, _, h2⟩
    let css := (List.range len).map fun i => (w.cells? 0 (a.add (i * sz)) sz).getD []
    have hcl : css.length = len := by simp [css]
    have hci : ∀ i, i < len → ∃ c, css[i]? = some c ∧ w.cells? 0 (a.add (i * sz)) sz = some c ∧ Reads enc P w e c := by
      intro i hi
      obtain ⟨c, h1, h2⟩ := hget i hi
      exact ⟨c, by simp [css, hi, h1], h1, h2⟩
    have hlen' : ∀ c ∈ css, c.length = sz ∧ Reads enc P w e c := by
      intro c hc
      obtain ⟨i, hi, he⟩ := List.mem_iff_getElem.1 hc
      obtain ⟨c', h1, h2, h3⟩ := hci i (by omega)
      rw [List.getElem?_eq_getElem hi, he] at h1
      obtain rfl := Option.some.inj h1
      exact ⟨(World.cells?_some h2).2.1, h3⟩
    refine ⟨some a, cap, css, by rw [hcl], Arr.toM ⟨rfl, some a, cap, rfl, ?_, by omega, hm, fun hn => ⟨a, rfl, ?_, ?_⟩⟩, hlen'⟩
    · exact flat_len (fN_len sz) css
    · obtain ⟨c, h1, _⟩ := hget 0 (by omega)
      have := World.cells?_block h1 h0
      simpa [Addr.add] using this
    · intro j u hj
      have hjl : j < (css.flatMap (fN sz)).length := (List.getElem?_eq_some_iff.1 hj).1
      rw [flat_len (fN_len sz), hcl] at hjl
      have hd : j / sz < len := Nat.div_lt_of_lt_mul (by rwa [Nat.mul_comm])
      obtain ⟨c, h1, h2, h3⟩ := hci (j / sz) hd
      have hc := (hlen' c (List.mem_of_getElem? h1)).1
      have hmod := Nat.mod_lt j h0
      have hj2 : j = j / sz * sz + j % sz := by rw [Nat.mul_comm]; exact (Nat.div_add_mod j sz).symm
      rw [hj2, flat_get (fN_len sz) css _ _ c h1 hmod] at hj
      have hfn : fN sz c = c := by simp [fN, ← hc]
      rw [hfn] at hj
      have := (World.cells?_some h2).2.2 (j % sz) hmod
      rw [Addr.add_add, ← hj2] at this
      rw [this, hj]
theorem Reads.sliceQ (ht : P.underlying t = some (.slice e)) (hsz : P.cellsOf e = sz) (h0 : 0 < sz) {R : Rel α} {ok : α → Prop} (hR : ∀ c, c.length = sz → Reads enc P w e c → ∃ x, R (memOf w) c x ∧ ok x) (h : Reads enc P w t cs) :
    ∃ (ad : Option Addr) (cap : Nat) (css : List (List Value)) (l : List α), cs = [.slice ad l.length cap] ∧ ArrQ (memOf w) sz R ad cap css l ∧ ∀ x ∈ l, ok x := by
  obtain ⟨ad, cap, css, rfl, hA, hall⟩ := Reads.row ht hsz h0 h
  obtain ⟨l, h1, h2⟩ := all2_choose (R := R (memOf w)) (ok := ok) css (fun c hc => hR c (hall c hc).1 (hall c hc).2)
  exact ⟨ad, cap, css, l, by rw [h1.len], ⟨hA, h1⟩, h2⟩
theorem Reads.slice (ht : P.underlying t = some (.slice e)) (hsz : P.cellsOf e = sz) (h0 : 0 < sz) {f : α → List Value} {ok : α → Prop} (hR : ∀ c, c.length = sz → Reads enc P w e c → ∃ x, c = f x ∧ ok x) (hf : ∀ x, (f x).length = sz) (h : Reads enc P w t cs) :
    ∃ (ad : Option Addr) (cap : Nat) (l : List α), cs = [.slice ad l.length cap] ∧ ArrM (memOf w) sz f ad cap l ∧ ∀ x ∈ l, ok x := by
  obtain ⟨ad, cap, css, l, rfl, ⟨hA, h1⟩, h2⟩ := Reads.sliceQ (R := RpF f) ht hsz h0 hR h
  have hcs : css = l.map f := by
    clear hA h h2
    induction h1 with
    | nil => rfl
    | cons h _ ih => rw [List.map_cons, ← ih, ← (show _ = f _ from h)]
  subst hcs
  refine ⟨ad, cap, l, rfl, fun w' hw' => ?_, h2⟩
  have := hA w' hw'
  have hfm : (l.map f).flatMap (fN sz) = l.flatMap f := by
    rw [List.flatMap_map]
    congr 1
    funext x
    simp [fN, ← hf x]
  unfold Arr at this ⊢
  rw [hfm] at this
  simpa using this
theorem Reads.struct {fs : Array Field} (ht : P.underlying t = some (.struct fs)) {r : Reach} {b0 : Nat} {v : Value} (hv : Value.okWide P w r b0 t v) : ∃ cs : List Value, v = .agg cs.toArray ∧ v.cells.toList = cs := by
  obtain ⟨c, rfl, _⟩ := WideShapes.okWide_struct ht hv
  exact ⟨c.toList, by simp, by simp [Value.cells]⟩
theorem Reads.arrayV {n : Nat} (ht : P.underlying t = some (.array n e)) {r : Reach} {b0 : Nat} {v : Value} (hv : Value.okWide P w r b0 t v) : ∃ cs : List Value, v = .agg cs.toArray ∧ v.cells.toList = cs := by
  unfold Value.okWide at hv
  rw [ht] at hv
  obtain ⟨c, rfl, _⟩ := hv
  exact ⟨c.toList, by simp, by simp [Value.cells]⟩
end
end Go.Eng
/- The engine: short names for what the walks say often. -/
namespace Go.Eng
open Go Go.RowKit
abbrev iv (n : Int) : Value := .int .i64 n
abbrev pb (b : Nat) : Value := .pointer (some ⟨b, 0, none⟩)
section
variable {P : Program} {r : Option Nat} {ops : Array Oper} {Q : Exit → Act → World → Prop} {K : Act → World → Prop} {N : Nat} {ds : List Deferred} {M : List (Nat × Value)} {a : Act} {w : World}
theorem esr {id : Nat} {ops : Array Oper} {y : Code} (h : WI P r ops (Exit.then (fun a w => WP P r y Q a w) Q) 0 a w) : WP P r (.seq (.region id ops false) y) Q a w := eseq (WI.region h)
theorem wfn {k : Nat} (hk : Nat.beq k ops.size = true) (h : K a w) : WI P r ops (Exit.then K Q) k a w := WI.fin hk (norm_then h)
theorem rn {k : Nat} (n k' : Nat) (M' : List (Nat × Value)) (hF : Fr N ds M a) (next : ∀ a', Fr N ds M' a' → WI P r ops Q k' a' w) (hdst : dstOk ops N = true := by kernel_rfl) (h : Ends P ops n k M M' [] := by exact ⟨by kernel_rfl⟩) (hk : k + n = k' := by rfl) : WI P r ops Q k a w :=
  run_ k' M' hF hdst onil h hk next
theorem rno {k : Nat} (n : Nat) (obs : List Ob) (k' : Nat) (M' : List (Nat × Value)) (hF : Fr N ds M a) (hob : Obs P (fun a b => b = a) (fun x => x = w) obs) (next : ∀ a', Fr N ds M' a' → WI P r ops Q k' a' w) (hdst : dstOk ops N = true := by kernel_rfl) (h : Ends P ops n k M M' obs := by exact ⟨by kernel_rfl⟩) (hk : k + n = k' := by rfl) : WI P r ops Q k a w :=
  run_ k' M' hF hdst hob h hk next
theorem rx {k : Nat} (n : Nat) (obs : List Ob) (k' : Nat) (M' : List (Nat × Value)) (hF : Fr N ds M a) (hob : Obs P Ext (Ext w) obs) (next : ∀ a' w', Fr N ds M' a' → Ext w w' → WI P r ops Q k' a' w') (hdst : dstOk ops N = true := by kernel_rfl) (h : Ends P ops n k M M' obs := by exact ⟨by kernel_rfl⟩) (hk : k + n = k' := by rfl) : WI P r ops Q k a w :=
  runX k' M' hF hdst hob h hk next
end
end Go.Eng
/- The engine: more short names. -/
namespace Go.Eng
open Go Go.RowKit
abbrev sv {α : Type} (ad : Option Addr) (l : List α) (cap : Nat) : Value := .slice ad l.length cap
abbrev sb (b n : Nat) : Value := .slice (some ⟨b, 0, none⟩) n n
abbrev ln {α : Type} (l : List α) : Int := ((l.length : Nat) : Int)
abbrev fz (w : World) (μ : Frz) : Res := frzR w.heap.size μ
section
variable {P : Program} {r : Option Nat} {ops : Array Oper} {Q : Exit → Act → World → Prop} {K : Act → World → Prop} {N : Nat} {ds : List Deferred} {M : List (Nat × Value)} {a : Act} {w : World} {H : List Res}
end
section
variable {P : Program} {r : Option Nat} {ops : Array Oper} {K : Act → World → Prop} {N : Nat} {ds : List Deferred} {M : List (Nat × Value)} {a : Act} {w0 w : World} {k : Nat} {H : List Res} {α β : Type} {e sz cap : Nat} {f : α → List Value} {ad : Option Addr} {c : List α} {l : List β}
end
end Go.Eng
/- The engine, part D12: equality of values that have parts. -/
namespace Go.Eng
open Go Go.RowKit
def eqFs (P : Program) (g : TypeId → Value → Value → Option Bool) (xs ys : Array Value) : List Field → Option Bool
  | [] => some true
  | f :: fs =>
    if f.name ≠ "_" then
      match pureSem P (part f.type xs f.offset), pureSem P (part f.type ys f.offset) with
      | some a, some b => (g f.type a b).bind fun p => (eqFs P g xs ys fs).bind fun q => some (p && q)
      | _, _ => none
    else eqFs P g xs ys fs
def eqAs (P : Program) (g : TypeId → Value → Value → Option Bool) (e : TypeId) (n : Nat) (xs ys : Array Value) : List Nat → Option Bool
  | [] => some true
  | i :: is =>
    match pureSem P (part e xs (i * n)), pureSem P (part e ys (i * n)) with
    | some a, some b => (g e a b).bind fun p => (eqAs P g e n xs ys is).bind fun q => some (p && q)
    | _, _ => none
def eqB (P : Program) : Nat → TypeId → Value → Value → Option Bool
  | 0, _, _, _ => none
  | d + 1, t, x, y =>
    match P.underlying t, x, y with
    | some .bool, .bool a, .bool b => some (a == b)
    | some (.int _), .int k a, .int k' b => if k = k' then some (a == b) else none
    | some .string, .string a, .string b => some (a == b)
    | some (.struct fs), .agg xs, .agg ys => bif P.stoodInHeld t then none else eqFs P (eqB P d) xs ys fs.toList
    | some (.array n e), .agg xs, .agg ys => (pureSem P (sizeOf e)).bind fun z => eqAs P (eqB P d) e z xs ys (List.range' 0 n)
    | _, _, _ => none
variable {P : Program}
theorem eqFs_run (g : TypeId → Value → Value → Option Bool) (d : Nat) (hg : ∀ t x y b, g t x y = some b → ∀ w, (Op.equalIn d t x y).run P w = .ok b w) (xs ys : Array Value) :
    ∀ (fs : List Field) (b : Bool), eqFs P g xs ys fs = some b → ∀ w, (Op.eqFields d xs ys fs).run P w = .ok b w := by
  intro fs
  induction fs with
  | nil => intro b h w; cases h; rfl
  | cons f fs ih =>
    intro b h w
    unfold eqFs at h
    unfold Op.eqFields
    split at h
    · rename_i hn
      rw [if_pos hn]
      split at h
      · rename_i a c ha hc
        obtain ⟨p, hp, h⟩ := Option.bind_eq_some_iff.1 h
        obtain ⟨q, hq, h⟩ := Option.bind_eq_some_iff.1 h
        cases h
        simp only [Sem.run_bind, pureSem_run _ _ ha, pureSem_run _ _ hc, Result.andThen_ok, hg _ _ _ _ hp]
        cases p
        · simp
        · simp only [Bool.not_true, Bool.false_eq_true, if_false, Bool.true_and]
          exact ih q hq w
      · cases h
    · rename_i hn
      rw [if_neg hn]
      exact ih b h w
theorem eqB_run : ∀ (d : Nat) (t : TypeId) (x y : Value) (b : Bool), eqB P d t x y = some b → ∀ w, (Op.equalIn d t x y).run P w = .ok b w := by
  intro d
  induction d with
  | zero => intro t x y b h; cases h
  | succ d ih =>
    intro t x y b h w
    unfold eqB at h
    split at h
    · rename_i hu; cases h; simp [Op.equalIn, run_underlying hu]
    · rename_i hu
      split at h
      · rename_i hk; cases h; subst hk; simp [Op.equalIn, run_underlying hu]
      · cases h
    · rename_i hu; cases h; simp [Op.equalIn, run_underlying hu]
    · rename_i fs xs ys hu
      cases hs : P.stoodInHeld t with
      | true => rw [hs] at h; cases h
      | false =>
        rw [hs] at h
        have hf : P.fieldsOf t = fs := by unfold Program.fieldsOf; rw [hu]
        rw [run_equalIn_struct w d t xs ys (by rw [hf]; exact hu) hs, hf]
        exact eqFs_run _ d ih xs ys _ _ h w
    · rename_i n e xs ys hu
      replace h := Option.bind_eq_some_iff.1 h
      obtain ⟨z, hz, h⟩ := h
      simp only [Op.equalIn, Sem.run_bind, run_underlying hu, Result.andThen_ok, pureSem_run _ _ hz, Std.Legacy.Range.forIn_eq_forIn_range', Std.Legacy.Range.size, Nat.sub_zero, Nat.add_sub_cancel, Nat.div_one]
      generalize List.range' 0 n = is at h ⊢
      clear hu
      induction is generalizing b with
      | nil => cases h; simp
      | cons i is ih2 =>
        unfold eqAs at h
        split at h
        · rename_i a c ha hc
          obtain ⟨p, hp, h⟩ := Option.bind_eq_some_iff.1 h
          obtain ⟨q, hq, h⟩ := Option.bind_eq_some_iff.1 h
          cases h
          simp only [List.forIn_cons, Sem.run_bind, pureSem_run _ _ ha, pureSem_run _ _ hc, Result.andThen_ok, ih _ _ _ _ hp]
          cases p
          · simp
          · simp only [Bool.not_true, Bool.false_eq_true, if_false, Bool.true_and, Sem.run_pure, Result.andThen_ok]
            exact ih2 q hq
        · cases h
    · cases h
section
variable {T : World → World → Prop} {D : World → Prop} {cs : List Cd} {t : TypeId} {xs ys : Array Value} {b : Bool}
theorem obEqC (hg : P.eqGuardType P.depth t = false) (h : eqB P 10000 t (.agg xs) (.agg ys) = some b) : Ob.ok P T D (.run cs (eqS .eql t xs ys) (.bool b)) := by
  intro _ w _
  simp only [eqS, Sem.run_bind, run_eqGuard_agg w .eql t _ _ xs ys hg, Result.andThen_ok, run_eql_struct, eqB_run _ _ _ _ _ h]
theorem obRemK {k : IntKind} {u : TypeId} {x y z : Int} (h : condsOk cs = true → remC x y = some z) : Ob.ok P T D (.run cs (binOp .rem u (.int k x) (.int k y)) (.int k z)) := by
  intro hk w _
  have h := h hk
  unfold remC at h
  split at h
  · cases h
  · rename_i hy
    cases h
    simp [binOp, Op.intDiv, hy]
end
end Go.Eng
/- The engine, all of it. -/
