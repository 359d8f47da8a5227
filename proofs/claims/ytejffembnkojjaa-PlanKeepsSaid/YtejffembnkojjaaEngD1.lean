/- The engine, part 12: operations of plain programs that may fail; memory that no longer changes. -/
import Derived.Test.YtejffembnkojjaaEng11
namespace Go.Eng
open Go Go.RowKit

/-! ### Plain operations -/
def ck (x : Int) : Option Int := if -9223372036854775808 ≤ x ∧ x ≤ 9223372036854775807 then some x else none
def quoC (x y : Int) : Option Int := if y = 0 then none else ck (x.tdiv y)
def remC (x y : Int) : Option Int := if y = 0 then none else some (x.tmod y)
def getI {α : Type} (l : List α) (i : Int) : Option α := if 0 ≤ i then l[i.toNat]? else none
def setI {α : Type} (l : List α) (i : Int) (x : α) : Option (List α) := if 0 ≤ i ∧ i < l.length then some (l.set i.toNat x) else none
def cutI {α : Type} (l : List α) (lo hi : Int) : Option (List α) := if 0 ≤ lo ∧ lo ≤ hi ∧ hi ≤ l.length then some ((l.drop lo.toNat).take (hi.toNat - lo.toNat)) else none
def apd {α : Type} (B : Nat) (l k : List α) : Option (List α) := if (l.length + k.length) * B ≤ 140737488355328 ∧ l.length + k.length ≤ 9223372036854775807 then some (l ++ k) else none
def mkI {α : Type} (B : Nat) (n : Int) (x : α) : Option (List α) := if 0 ≤ n ∧ B * n.toNat ≤ 281474976710656 ∧ n ≤ 9223372036854775807 then some (List.replicate n.toNat x) else none
/-- Under a guard. -/
def gd {α : Type} (g : Bool) (o : Option α) (d : α) : Option α := bif g then o else some d
theorem bindS {α β : Type} {o : Option α} {f : α → Option β} {r : β} (h : o.bind f = some r) : ∃ x, o = some x ∧ f x = some r := Option.bind_eq_some_iff.1 h
theorem gd_some {α : Type} {g : Bool} {o : Option α} {d x : α} (h : gd g o d = some x) (hg : g = true) : o = some x := by subst hg; exact h
theorem bif_t {α : Type} {c : Bool} {x y z : α} (h : (bif c then x else y) = z) (hc : c = true) : x = z := by subst hc; exact h
theorem bif_f {α : Type} {c : Bool} {x y z : α} (h : (bif c then x else y) = z) (hc : c = false) : y = z := by subst hc; exact h
theorem ck_some {x y : Int} (h : ck x = some y) : y = x ∧ -9223372036854775808 ≤ x ∧ x ≤ 9223372036854775807 := by
  unfold ck at h
  split at h
  · cases h; exact ⟨rfl, by assumption⟩
  · cases h
theorem getI_some {α : Type} {l : List α} {i : Int} {x : α} (h : getI l i = some x) : 0 ≤ i ∧ i < l.length ∧ l[i.toNat]? = some x := by
  unfold getI at h
  split at h
  · have := (List.getElem?_eq_some_iff.1 h).1
    exact ⟨by assumption, by omega, h⟩
  · cases h
section
variable {P : Program} {T : World → World → Prop} {D : World → Prop} {w w' : World} {cs : List Cd} {t : TypeId} {x y z : Int}
theorem obAddC (h : condsOk cs = true → ck (x + y) = some z) : Ob.ok P T D (.run cs (binOp .add t (.int .i64 x) (.int .i64 y)) (.int .i64 z)) :=
  obC fun hk => by obtain ⟨rfl, hb⟩ := ck_some (h hk); exact obAdd hb
theorem obSubC (h : condsOk cs = true → ck (x - y) = some z) : Ob.ok P T D (.run cs (binOp .sub t (.int .i64 x) (.int .i64 y)) (.int .i64 z)) :=
  obC fun hk => by obtain ⟨rfl, hb⟩ := ck_some (h hk); exact obSub hb
theorem obMulC (h : condsOk cs = true → ck (x * y) = some z) : Ob.ok P T D (.run cs (binOp .mul t (.int .i64 x) (.int .i64 y)) (.int .i64 z)) :=
  obC fun hk => by obtain ⟨rfl, hb⟩ := ck_some (h hk); exact obMul hb
theorem obQuoC (h : condsOk cs = true → quoC x y = some z) : Ob.ok P T D (.run cs (binOp .quo t (.int .i64 x) (.int .i64 y)) (.int .i64 z)) :=
  obC fun hk => by
    have h := h hk
    unfold quoC at h
    split at h
    · cases h
    · obtain ⟨rfl, hb⟩ := ck_some h
      have := obQuoT (P := P) (T := T) (D := D) (cs := cs) (t := t) (x := x) (y := y) (by assumption)
      rwa [Go.Eng.wrap64 hb] at this
theorem obRemC (h : condsOk cs = true → remC x y = some z) : Ob.ok P T D (.run cs (binOp .rem t (.int .i64 x) (.int .i64 y)) (.int .i64 z)) :=
  obC fun hk => by
    have h := h hk
    unfold remC at h
    split at h
    · cases h
    · cases h; exact obRemT (by assumption)
theorem obConvC {src dst : TypeId} {k : IntKind} (hs : (P.underlying src).isSome = true) (hd : P.underlying dst = some (.int .i64)) (h : condsOk cs = true → ck x = some z) :
    Ob.ok P T D (.run cs (convert src dst (.int k x)) (.int .i64 z)) := obC fun hk => by obtain ⟨rfl, hb⟩ := ck_some (h hk); exact obConv hs hd hb
variable {α : Type} {sz cap : Nat} {f : α → List Value} {ad : Option Addr} {l : List α}
theorem obIdxG {t : Nat} {i : Int} {u : α} (h : Arr w sz f ad l.length cap l) (ht : sliceOf P t sz = true) (hx : condsOk cs = true → getI l i = some u) :
    Ob.ok P T D (.run cs (Instr.indexAt t (.slice ad l.length cap) (.int .i64 i)) (.pointer (some (slAddr ad i sz)))) :=
  obIdx h ht fun hk => by have := getI_some (hx hk); exact ⟨this.1, this.2.1⟩
theorem getD_of {i : Nat} {u d : α} (h : l[i]? = some u) : l.getD i d = u := by rw [List.getD_eq_getElem?_getD, h]; rfl
theorem obElG {t : Nat} {i : Int} {u : α} {v : Value} (j : Nat) (hf : ∀ x, (f x).length = sz) (h : ∀ w', D w' → Arr w' sz f ad l.length cap l) (ht : notAgg P t = true) (hx : condsOk cs = true → getI l i = some u) (hj : (f u)[j]? = some v) :
    Ob.ok P T D (.run cs (Instr.loadAt t (.pointer (some ((slAddr ad i sz).add j)))) v) := by
  intro hk w' e
  obtain ⟨h0, hi, hg⟩ := getI_some (hx hk)
  obtain ⟨_, _, hc⟩ := (h w' e).cells hf h0 hi u
  rw [getD_of hg] at hc
  exact load1_run ht (hc j _ hj)
theorem obElNG {t m : Nat} {i : Int} {u : α} {us : List Value} (j : Nat) (hf : ∀ x, (f x).length = sz) (h : ∀ w', D w' → Arr w' sz f ad l.length cap l) (ht : aggSize P t = some m) (hx : condsOk cs = true → getI l i = some u) (hg : us.length = m ∧ ((f u).drop j).take m = us) :
    Ob.ok P T D (.run cs (Instr.loadAt t (.pointer (some ((slAddr ad i sz).add j)))) (.agg us.toArray)) := by
  intro hk w' e
  obtain ⟨h0, hi, hgu⟩ := getI_some (hx hk)
  obtain ⟨_, _, hc⟩ := (h w' e).cells hf h0 hi u
  rw [getD_of hgu] at hc
  refine loadN_run (by rw [hg.1]; exact ht) (fun q u' hu => ?_)
  rw [addr_add]
  refine hc (j + q) u' ?_
  rw [← hg.2, List.getElem?_take] at hu
  split at hu
  · rwa [List.getElem?_drop] at hu
  · cases hu
end

/-! ### Memory that no longer changes -/
abbrev Frz := Nat → Option Obj
def Frz.le (μ ν : Frz) : Prop := ∀ b o, μ b = some o → ν b = some o
def FrzAt (μ : Frz) (w : World) : Prop := ∀ b o, μ b = some o → w.heap[b]? = some o
def memOf (w : World) : Frz := fun b => w.heap[b]?
/-- The same below n, more from n on. -/
def Frz.ext (n : Nat) (μ ν : Frz) : Prop := μ.le ν ∧ ∀ b o, ν b = some o → b < n → μ b = some o
def FrzIn (w0 : World) (μ : Frz) : Prop := ∀ b o, b < w0.heap.size → μ b = some o → w0.heap[b]? = some o
def frzR (n : Nat) (μ : Frz) : Res where
  foot := fun b => n ≤ b ∧ ∃ o, μ b = some o
  holds := fun w => ∀ b o, n ≤ b → μ b = some o → w.heap[b]? = some o
  loc := fun w w' h hb b o hn ho => (h b ⟨hn, o, ho⟩).trans (hb b o hn ho)
  lt := fun w b hb hk => by obtain ⟨hn, o, ho⟩ := hk; exact (Array.getElem?_eq_some_iff.1 (hb b o hn ho)).1
theorem Frz.le_refl (μ : Frz) : μ.le μ := fun _ _ h => h
theorem Frz.le_trans {a b c : Frz} (h : a.le b) (k : b.le c) : a.le c := fun x o hx => k x o (h x o hx)
theorem Frz.ext_refl (n : Nat) (μ : Frz) : μ.ext n μ := ⟨μ.le_refl, fun _ _ h _ => h⟩
theorem Frz.ext_trans {n : Nat} {a b c : Frz} (h : a.ext n b) (k : b.ext n c) : a.ext n c := ⟨Frz.le_trans h.1 k.1, fun x o hx hn => h.2 x o (k.2 x o hx hn) hn⟩
theorem Frz.ext_mono {n m : Nat} {a b : Frz} (h : a.ext n b) (hm : m ≤ n) : a.ext m b := ⟨h.1, fun x o hx hn => h.2 x o hx (by omega)⟩
theorem memOf_at (w : World) : FrzAt (memOf w) w := fun _ _ h => h
theorem FrzAt.le_mem {μ : Frz} {w : World} (h : FrzAt μ w) : μ.le (memOf w) := h
theorem FrzAt.low {μ ν : Frz} {w : World} (h : FrzAt ν w) (hle : μ.le ν) : FrzAt μ w := fun b o hb => h b o (hle b o hb)
section
variable {w0 w w' : World} {H : List Res} {μ ν : Frz} {R : Res}
theorem FrzAt.later (h : FrzAt μ w) (hx : Ext w w') : FrzAt μ w' := fun b o hb => hx.block (h b o hb)
theorem FrzAt.init (h : FrzAt μ w0) : FrzIn w0 μ ∧ St w0 [frzR w0.heap.size μ] w0 :=
  ⟨fun b o _ hb => h b o hb, (St.init w0).push (Ext.refl w0) (fun b o _ hb => h b o hb) (fun _ hb => hb.1)⟩
theorem St.frz {i : Nat} (h : St w0 H w) (hi : H[i]? = some (frzR w0.heap.size μ)) (hl : FrzIn w0 μ) : FrzAt μ w := fun b o hb => by
  rcases Nat.lt_or_ge b w0.heap.size with hlt | hge
  · exact h.ext.block (hl b o hlt hb)
  · exact h.res hi b o hge hb
/-- What the call owned no longer changes. -/
theorem St.freeze {i j : Nat} (h : St w0 H w) (hi : H[i]? = some (frzR w0.heap.size μ)) (hj : H[j]? = some R) (hij : i ≠ j) (hl : FrzIn w0 μ) :
    ∃ ν, μ.ext w0.heap.size ν ∧ FrzIn w0 ν ∧ St w0 ((H.set i (frzR w0.heap.size ν)).eraseIdx j) w ∧ ∀ w', FrzAt ν w' → R.holds w' := by
  classical
  have hR := h.res hj
  have hRm : R ∈ H := List.mem_of_getElem? hj
  refine ⟨fun b => if R.foot b then w.heap[b]? else μ b, ⟨fun b o hb => ?_, fun b o hb hn => ?_⟩, fun b o hlt hb => ?_, ?_, fun w' hw' => ?_⟩
  · by_cases hf : R.foot b
    · simp only [if_pos hf]; exact h.frz hi hl b o hb
    · simp only [if_neg hf]; exact hb
  · have hf : ¬ R.foot b := fun hf => by have := h.low R hRm b hf; omega
    simp only [if_neg hf] at hb; exact hb
  · have hf : ¬ R.foot b := fun hf => by have := h.low R hRm b hf; omega
    simp only [if_neg hf] at hb; exact hl b o hlt hb
  · -- the frozen part takes over the blocks of R
    have hlen : i < H.length := (List.getElem?_eq_some_iff.1 hi).1
    have hjl : j < H.length := (List.getElem?_eq_some_iff.1 hj).1
    have hget : ∀ S, S ∈ (H.set i (frzR w0.heap.size fun b => if R.foot b then w.heap[b]? else μ b)).eraseIdx j → S = frzR w0.heap.size (fun b => if R.foot b then w.heap[b]? else μ b) ∨ ∃ k, k ≠ i ∧ k ≠ j ∧ H[k]? = some S := by
      intro S hS
      obtain ⟨k, hk⟩ := List.mem_iff_getElem?.1 hS
      rw [List.getElem?_eraseIdx] at hk
      by_cases hkj : k < j
      · rw [if_pos hkj] at hk
        by_cases hki : k = i
        · subst hki; rw [List.getElem?_set_self hlen] at hk; cases hk; exact .inl rfl
        · rw [List.getElem?_set_ne (Ne.symm hki)] at hk; exact .inr ⟨k, hki, by omega, hk⟩
      · rw [if_neg hkj] at hk
        by_cases hki : k + 1 = i
        · rw [hki, List.getElem?_set_self hlen] at hk; cases hk; exact .inl rfl
        · rw [List.getElem?_set_ne (Ne.symm hki)] at hk; exact .inr ⟨k + 1, hki, by omega, hk⟩
    have apart : ∀ (p q : Nat) (S S' : Res), p ≠ q → H[p]? = some S → H[q]? = some S' → ∀ b, S.foot b → ¬ S'.foot b := by
      intro p q S S' hpq hp hq b hb hb'
      have hp1 := (List.getElem?_eq_some_iff.1 hp).1
      have hq1 := (List.getElem?_eq_some_iff.1 hq).1
      have e1 : H[p] = S := (List.getElem?_eq_some_iff.1 hp).2
      have e2 : H[q] = S' := (List.getElem?_eq_some_iff.1 hq).2
      rcases Nat.lt_or_gt_of_ne hpq with hlt | hgt
      · have := List.pairwise_iff_getElem.1 h.apart p q hp1 hq1 hlt
        rw [e1, e2] at this; exact this b hb hb'
      · have := List.pairwise_iff_getElem.1 h.apart q p hq1 hp1 hgt
        rw [e1, e2] at this; exact this b hb' hb
    have hnew : ∀ k S, k ≠ i → k ≠ j → H[k]? = some S → ∀ b, (frzR w0.heap.size fun b => if R.foot b then w.heap[b]? else μ b).foot b → ¬ S.foot b := by
      intro k S hki hkj hk b hb hSb
      obtain ⟨hn, o, ho⟩ := hb
      by_cases hf : R.foot b
      · exact apart j k R S (Ne.symm hkj) hj hk b hf hSb
      · simp only [if_neg hf] at ho
        exact apart i k _ S (Ne.symm hki) hi hk b ⟨hn, o, ho⟩ hSb
    refine ⟨h.ext, fun S hS => ?_, fun S hS b hb => ?_, ?_⟩
    · rcases hget S hS with rfl | ⟨k, _, _, hk⟩
      · intro b o hn ho
        by_cases hf : R.foot b
        · simp only [if_pos hf] at ho; exact ho
        · simp only [if_neg hf] at ho; exact h.res hi b o hn ho
      · exact h.res hk
    · rcases hget S hS with rfl | ⟨k, _, _, hk⟩
      · exact hb.1
      · exact h.low S (List.mem_of_getElem? hk) b hb
    · rw [List.pairwise_iff_getElem]
      intro p q hp hq hpq b hb hb'
      have key : ∀ z (hz : z < ((H.set i (frzR w0.heap.size fun b => if R.foot b then w.heap[b]? else μ b)).eraseIdx j).length), ∃ z', (p < q → True) ∧ ((H.set i (frzR w0.heap.size fun b => if R.foot b then w.heap[b]? else μ b))[z']? = some ((H.set i (frzR w0.heap.size fun b => if R.foot b then w.heap[b]? else μ b)).eraseIdx j)[z]) ∧ z' ≠ j ∧ (z' = if z < j then z else z + 1) := by
        intro z hz
        have hz2 := List.getElem?_eq_getElem hz
        rw [List.getElem?_eraseIdx] at hz2
        by_cases hzj : z < j
        · rw [if_pos hzj] at hz2; exact ⟨z, fun _ => trivial, hz2, by omega, by rw [if_pos hzj]⟩
        · rw [if_neg hzj] at hz2; exact ⟨z + 1, fun _ => trivial, hz2, by omega, by rw [if_neg hzj]⟩
      obtain ⟨p', _, hp', hpj, ep⟩ := key p hp
      obtain ⟨q', _, hq', hqj, eq⟩ := key q hq
      have hpq' : p' ≠ q' := by rw [ep, eq]; split <;> split <;> omega
      by_cases hpi : p' = i
      · rw [hpi, List.getElem?_set_self hlen] at hp'
        have hqi : q' ≠ i := fun e => hpq' (by rw [hpi, e])
        rw [List.getElem?_set_ne (Ne.symm hqi)] at hq'
        rw [← Option.some.inj hp'] at hb
        exact hnew q' _ hqi hqj hq' b hb hb'
      · rw [List.getElem?_set_ne (Ne.symm hpi)] at hp'
        by_cases hqi : q' = i
        · rw [hqi, List.getElem?_set_self hlen] at hq'
          rw [← Option.some.inj hq'] at hb'
          exact hnew p' _ hpi hpj hp' b hb' hb
        · rw [List.getElem?_set_ne (Ne.symm hqi)] at hq'
          exact apart p' q' _ _ hpq' hp' hq' b hb hb'
  · refine R.loc w w' (fun b hb => ?_) hR
    have hbl := R.lt w b hR hb
    have : w.heap[b]? = some w.heap[b] := Array.getElem?_eq_getElem hbl
    rw [this]
    exact hw' b _ (by simp only [if_pos hb]; exact this)
/-- A callee has left frozen memory. -/
theorem St.frzMerge {i : Nat} {Hn : List Res} (h : St w0 H w) (hi : H[i]? = some (frzR w0.heap.size μ)) (hl : FrzIn w0 μ) (hx : μ.ext w.heap.size ν) (hQ : St w (frzR w.heap.size ν :: Hn) w') :
    FrzIn w0 ν ∧ St w0 (Hn ++ H.set i (frzR w0.heap.size ν)) w' := by
  have hsz := h.ext.size
  refine ⟨fun b o hlt hb => hl b o hlt (hx.2 b o hb (by omega)), ?_⟩
  have h1 : St w0 (frzR w.heap.size ν :: Hn ++ H) w' := h.madeL hQ
  have hlen : i < H.length := (List.getElem?_eq_some_iff.1 hi).1
  -- the two frozen parts become one
  have hnew : St w0 (frzR w.heap.size ν :: Hn) w' := h1.sub (List.sublist_append_left _ _)
  have hold : St w0 H w' := h1.sub (List.sublist_append_right _ _)
  have hp := List.pairwise_append.1 h1.apart
  have hph := List.pairwise_cons.1 hp.1
  have cases_ : ∀ b o, w0.heap.size ≤ b → ν b = some o → (frzR w0.heap.size μ).foot b ∨ (frzR w.heap.size ν).foot b := by
    intro b o hn hb
    rcases Nat.lt_or_ge b w.heap.size with hlt | hge
    · exact .inl ⟨hn, o, hx.2 b o hb hlt⟩
    · exact .inr ⟨hge, o, hb⟩
  have hset : ∀ S, S ∈ H.set i (frzR w0.heap.size ν) → S = frzR w0.heap.size ν ∨ ∃ k, k ≠ i ∧ H[k]? = some S := by
    intro S hS
    obtain ⟨k, hk⟩ := List.mem_iff_getElem?.1 hS
    by_cases hki : k = i
    · subst hki; rw [List.getElem?_set_self hlen] at hk; cases hk; exact .inl rfl
    · rw [List.getElem?_set_ne (Ne.symm hki)] at hk; exact .inr ⟨k, hki, hk⟩
  have himem : frzR w0.heap.size μ ∈ H := List.mem_of_getElem? hi
  have apart : ∀ (p q : Nat) (S S' : Res), p ≠ q → H[p]? = some S → H[q]? = some S' → ∀ b, S.foot b → ¬ S'.foot b := by
    intro p q S S' hpq hp hq b hb hb'
    have hp1 := (List.getElem?_eq_some_iff.1 hp).1
    have hq1 := (List.getElem?_eq_some_iff.1 hq).1
    have e1 : H[p] = S := (List.getElem?_eq_some_iff.1 hp).2
    have e2 : H[q] = S' := (List.getElem?_eq_some_iff.1 hq).2
    rcases Nat.lt_or_gt_of_ne hpq with hlt | hgt
    · have := List.pairwise_iff_getElem.1 hold.apart p q hp1 hq1 hlt
      rw [e1, e2] at this; exact this b hb hb'
    · have := List.pairwise_iff_getElem.1 hold.apart q p hq1 hp1 hgt
      rw [e1, e2] at this; exact this b hb' hb
  have hnn : ∀ S, S ∈ Hn → ∀ b, (frzR w0.heap.size ν).foot b → ¬ S.foot b := by
    intro S hS b hb hSb
    obtain ⟨hn, o, ho⟩ := hb
    rcases cases_ b o hn ho with hb | hb
    · exact hp.2.2 S (List.mem_cons_of_mem _ hS) _ himem b hSb hb
    · exact hph.1 S hS b hb hSb
  have hno : ∀ k S, k ≠ i → H[k]? = some S → ∀ b, (frzR w0.heap.size ν).foot b → ¬ S.foot b := by
    intro k S hki hk b hb hSb
    obtain ⟨hn, o, ho⟩ := hb
    rcases cases_ b o hn ho with hb | hb
    · exact apart i k _ S (Ne.symm hki) hi hk b hb hSb
    · exact hp.2.2 _ (List.mem_cons_self ..) S (List.mem_of_getElem? hk) b hb hSb
  refine ⟨h1.ext, fun S hS => ?_, fun S hS b hb => ?_, ?_⟩
  · rcases List.mem_append.1 hS with hS | hS
    · exact hnew.holds S (List.mem_cons_of_mem _ hS)
    · rcases hset S hS with rfl | ⟨k, _, hk⟩
      · intro b o hn ho
        rcases cases_ b o hn ho with hb | hb
        · obtain ⟨_, o', ho'⟩ := hb
          have := hold.res hi b o' hn ho'
          rw [this, ← hx.1 b o' ho', ho]
        · exact hnew.res (i := 0) rfl b o hb.1 ho
      · exact hold.res hk
  · rcases List.mem_append.1 hS with hS | hS
    · exact hnew.low S (List.mem_cons_of_mem _ hS) b hb
    · rcases hset S hS with rfl | ⟨k, _, hk⟩
      · exact hb.1
      · exact hold.low S (List.mem_of_getElem? hk) b hb
  · refine List.pairwise_append.2 ⟨hph.2, ?_, fun S hS S' hS' b hb hb' => ?_⟩
    · rw [List.pairwise_iff_getElem]
      intro p q hp1 hq1 hpq b hb hb'
      have hp2 : p < H.length := by simpa using hp1
      have hq2 : q < H.length := by simpa using hq1
      by_cases hpi : p = i
      · subst hpi
        rw [List.getElem_set_self] at hb
        rw [List.getElem_set_ne (by omega)] at hb'
        exact hno q _ (by omega) (List.getElem?_eq_getElem hq2) b hb hb'
      · rw [List.getElem_set_ne (Ne.symm hpi)] at hb
        by_cases hqi : q = i
        · subst hqi
          rw [List.getElem_set_self] at hb'
          exact hno p _ hpi (List.getElem?_eq_getElem hp2) b hb' hb
        · rw [List.getElem_set_ne (Ne.symm hqi)] at hb'
          exact apart p q _ _ (by omega) (List.getElem?_eq_getElem hp2) (List.getElem?_eq_getElem hq2) b hb hb'
    · rcases hset S' hS' with rfl | ⟨k, _, hk⟩
      · exact hnn S hS b hb' hb
      · exact hp.2.2 S (List.mem_cons_of_mem _ hS) S' (List.mem_of_getElem? hk) b hb hb'
end

/-! ### Facts on it -/
inductive All2 {α β : Type} (R : α → β → Prop) : List α → List β → Prop
  | nil : All2 R [] []
  | cons {x : α} {y : β} {xs : List α} {ys : List β} : R x y → All2 R xs ys → All2 R (x :: xs) (y :: ys)
def ArrM {α : Type} (μ : Frz) (sz : Nat) (f : α → List Value) (ad : Option Addr) (cap : Nat) (l : List α) : Prop := ∀ w, FrzAt μ w → Arr w sz f ad l.length cap l
def BlkM (μ : Frz) (b : Nat) (t : TypeId) (cs : Array Value) : Prop := ∀ w, FrzAt μ w → Blk w b t cs
section
variable {w w' : World} {μ ν : Frz} {α : Type} {sz cap n e : Nat} {f : α → List Value} {ad : Option Addr} {l : List α}
theorem ArrM.mono (h : ArrM μ sz f ad cap l) (hle : μ.le ν) : ArrM ν sz f ad cap l := fun w hw => h w (hw.low hle)
theorem BlkM.mono {b : Nat} {t : TypeId} {cs : Array Value} (h : BlkM μ b t cs) (hle : μ.le ν) : BlkM ν b t cs := fun w hw => h w (hw.low hle)
theorem ArrM.nil : ArrM μ sz f none 0 ([] : List α) := fun _ _ => Arr.nil
theorem Arr.alike (h : Arr w sz f ad n cap l) (hw : FrzAt (memOf w) w') : Arr w' sz f ad n cap l := by
  obtain ⟨h1, ad', cap', e, h2, h3, h4, h5⟩ := h
  refine ⟨h1, ad', cap', e, h2, h3, h4, fun hn => ?_⟩
  obtain ⟨a, h6, h7, h8⟩ := h5 hn
  have hb : ∀ k, k < w.heap.size → w'.heap[k]? = w.heap[k]? := fun k hk => by
    have : w.heap[k]? = some w.heap[k] := Array.getElem?_eq_getElem hk
    rw [this]; exact hw k _ this
  refine ⟨a, h6, ?_, fun j u hu => ?_⟩
  · have := hb _ h7
    rw [Array.getElem?_eq_getElem h7] at this
    exact (Array.getElem?_eq_some_iff.1 this).1
  · have := h8 j u hu
    unfold World.cell? at this ⊢
    rw [addr_block] at this ⊢
    rw [hb _ h7]; exact this
theorem Arr.toM (h : Arr w sz f ad l.length cap l) : ArrM (memOf w) sz f ad cap l := fun _ hw => h.alike hw
theorem ArrM.of_arr (h : ∀ w, FrzAt ν w → (arr e sz f ad l.length cap l).holds w) : ArrM ν sz f ad cap l := fun w hw => ⟨rfl, Sl.of_own (h w hw).2⟩
theorem BlkM.of_blk {b : Nat} {t : TypeId} {cs : Array Value} (h : ∀ w, FrzAt ν w → (blk b t cs).holds w) : BlkM ν b t cs := h
theorem getI_all2 {β : Type} {R : α → β → Prop} {xs : List α} {ys : List β} (h : All2 R xs ys) {i : Int} {y : β} (hy : getI ys i = some y) : ∃ x, getI xs i = some x ∧ R x y := by
  have h0 := (getI_some hy).1
  have hg := (getI_some hy).2.2
  unfold getI
  rw [if_pos h0]
  clear hy h0
  generalize i.toNat = k at hg
  induction h generalizing k with
  | nil => simp at hg
  | cons hR _ ih =>
    cases k with
    | zero => simp at hg; subst hg; exact ⟨_, rfl, hR⟩
    | succ k => simp at hg; exact ih k hg
end
end Go.Eng
