/- The engine, part 2: a segment of operations whose results are known by assertions, in the text's order; a region in whatever order. -/
import Derived.Test.YtejffembnkojjaaEng1
namespace Go.Eng
open Go Go.RowKit

abbrev Asn := Value → World → Prop
def lookA : List (Nat × Asn) → Nat → Option Asn
  | [], _ => none
  | (k, φ) :: E, t => if k = t then some φ else lookA E t
def pushA (E : List (Nat × Asn)) (d : Option Tmp) (φ : Asn) : List (Nat × Asn) :=
  match d with
  | some d => (d, φ) :: E
  | none => E
def dstAt (ops : Array Oper) (i : Nat) : Option Tmp := (ops[i]?).bind (·.dst)
def EnvOk (E : List (Nat × Asn)) (a : Act) (w : World) : Prop := ∀ t ψ, lookA E t = some ψ → ψ (a.tmps.getD t undef) w
def Stab (T : World → World → Prop) (φ : Asn) : Prop := ∀ v w w', φ v w → T w w' → φ v w'
structure Trans (T : World → World → Prop) : Prop where
  refl : ∀ w, T w w
  trans : ∀ {a b c}, T a b → T b c → T a c
theorem trans_ext : Trans Ext := ⟨Ext.refl, Ext.trans⟩
theorem trans_eq : Trans (fun a b : World => b = a) := ⟨fun _ => rfl, fun h k => k.trans h⟩

def OpHyp (P : Program) (r : Option Nat) (ops : Array Oper) (T : World → World → Prop) (D : World → Prop) (E : List (Nat × Asn)) (o : Oper) (φ : Asn) : Prop :=
  ∀ a w, D w → (∀ t ∈ o.looksAt ops, ∀ ψ, lookA E t = some ψ → ψ (a.tmps.getD t undef) w) → OpG P r ops o a w (fun v w' => T w w' ∧ φ v w')
def Seg (P : Program) (r : Option Nat) (ops : Array Oper) (T : World → World → Prop) (D : World → Prop) : List Asn → Nat → List (Nat × Asn) → Prop
  | [], _, _ => True
  | φ :: Φ, i, E => (match ops[i]? with
      | none => False
      | some o => OpHyp P r ops T D E o φ ∧ (∀ d, o.dst = some d → True)) ∧ Seg P r ops T D Φ (i + 1) (pushA E (dstAt ops i) φ)
def envL (ops : Array Oper) : List Asn → Nat → List (Nat × Asn) → List (Nat × Asn)
  | [], _, E => E
  | φ :: Φ, i, E => envL ops Φ (i + 1) (pushA E (dstAt ops i) φ)
def dstOk (ops : Array Oper) (N : Nat) : Bool := ops.all fun o => match o.dst with | some d => Nat.blt d N | none => true

section
variable {P : Program} {r : Option Nat} {ops : Array Oper} {T : World → World → Prop} {D : World → Prop} {Q : Exit → Act → World → Prop} {N : Nat}

theorem dstOk_spec (h : dstOk ops N = true) {i : Nat} {o : Oper} {d : Tmp} (ho : ops[i]? = some o) (hd : o.dst = some d) : d < N := by
  unfold dstOk at h
  rw [Array.all_eq_true'] at h
  have hm : o ∈ ops := Array.mem_of_getElem? ho
  have := h o hm
  rw [hd] at this
  exact Nat.blt_eq.mp this
theorem put_size (a : Act) (d : Option Tmp) (v : Value) : (a.put d v).tmps.size = a.tmps.size := by cases d <;> simp [Act.put]
theorem put_defers (a : Act) (d : Option Tmp) (v : Value) : (a.put d v).defers = a.defers := by cases d <;> rfl
theorem put_same {a : Act} {d : Tmp} {v : Value} (h : d < a.tmps.size) : (a.put (some d) v).tmps.getD d undef = v := by
  simp [Act.put, h]
theorem put_other {a : Act} {d : Option Tmp} {t : Tmp} {v : Value} (h : d ≠ some t) : (a.put d v).tmps.getD t undef = a.tmps.getD t undef := by
  cases d with
  | none => rfl
  | some d =>
    have : d ≠ t := fun e => h (by rw [e])
    simp [Act.put, Array.getElem?_setIfInBounds_ne this]
theorem lookA_push {E : List (Nat × Asn)} {d : Option Tmp} {φ ψ : Asn} {t : Nat} (h : lookA (pushA E d φ) t = some ψ) : (d = some t ∧ ψ = φ) ∨ (d ≠ some t ∧ lookA E t = some ψ) := by
  cases d with
  | none => exact .inr ⟨by simp, h⟩
  | some d =>
    simp only [pushA, lookA] at h
    split at h
    · rename_i e; cases h; exact .inl ⟨by rw [e], rfl⟩
    · rename_i e; exact .inr ⟨by simpa using e, h⟩
theorem EnvOk.push {E : List (Nat × Asn)} {a : Act} {w w' : World} {d : Option Tmp} {φ : Asn} {v : Value} (h : EnvOk E a w) (hst : ∀ t ψ, lookA E t = some ψ → Stab T ψ) (hT : T w w')
    (hd : ∀ t, d = some t → t < a.tmps.size) (hφ : φ v w') : EnvOk (pushA E d φ) (a.put d v) w' := by
  intro t ψ ht
  rcases lookA_push ht with ⟨e, rfl⟩ | ⟨e, hl⟩
  · subst e
    rw [put_same (hd t rfl)]
    exact hφ
  · rw [put_other e]
    exact hst t ψ hl _ _ _ (h t ψ hl) hT
theorem stab_push {E : List (Nat × Asn)} {d : Option Tmp} {φ : Asn} (h : ∀ t ψ, lookA E t = some ψ → Stab T ψ) (hφ : Stab T φ) : ∀ t ψ, lookA (pushA E d φ) t = some ψ → Stab T ψ := by
  intro t ψ ht
  rcases lookA_push ht with ⟨_, rfl⟩ | ⟨_, hl⟩
  · exact hφ
  · exact h t ψ hl

/-- A segment in the text's order. -/
theorem seg_seq (hT : Trans T) (hD : ∀ w w', D w → T w w' → D w') (hdst : dstOk ops N = true) : ∀ (Φ : List Asn) (k : Nat) (E : List (Nat × Asn)) (a : Act) (w : World),
    Seg P r ops T D Φ k E → (∀ φ ∈ Φ, Stab T φ) → (∀ t ψ, lookA E t = some ψ → Stab T ψ) → D w → a.tmps.size = N → EnvOk E a w →
    (∀ a' w', T w w' → a'.tmps.size = N → a'.defers = a.defers → EnvOk (envL ops Φ k E) a' w' → WI P r ops Q (k + Φ.length) a' w') → WI P r ops Q k a w := by
  intro Φ
  induction Φ with
  | nil => intro k E a w _ _ _ _ hN hE hK; exact hK a w (hT.refl w) hN rfl hE
  | cons φ Φ ih =>
    intro k E a w hS hst hstE hw hN hE hK
    obtain ⟨h1, h2⟩ := hS
    cases ho : ops[k]? with
    | none => rw [ho] at h1; exact h1.elim
    | some o =>
      rw [ho] at h1
      have hd : dstAt ops k = o.dst := by simp [dstAt, ho]
      refine WI.cons ho (h1.1 a w hw (fun t _ ψ hl => hE t ψ hl)) ?_
      rintro v w' ⟨hww, hφ⟩
      have hlt : ∀ t, o.dst = some t → t < a.tmps.size := fun t ht => hN ▸ dstOk_spec hdst ho ht
      refine ih (k + 1) _ _ w' h2 (fun ψ hψ => hst ψ (List.mem_cons_of_mem _ hψ)) (stab_push hstE (hst φ (List.mem_cons_self ..))) (hD _ _ hw hww) (by rw [put_size]; exact hN) ?_ ?_
      · rw [hd]; exact hE.push hstE hww hlt hφ
      · intro a' w'' hw'' hN' hds hE'
        have := hK a' w'' (hT.trans hww hw'') hN' (hds.trans (put_defers _ _ _)) hE'
        rwa [List.length_cons, show k + (Φ.length + 1) = k + 1 + Φ.length by omega] at this

theorem seg_get : ∀ (Φ : List Asn) (k : Nat) (E : List (Nat × Asn)), Seg P r ops T D Φ k E → ∀ (j : Nat) (φ : Asn), Φ[j]? = some φ →
    ∃ o, ops[k + j]? = some o ∧ OpHyp P r ops T D (envL ops (Φ.take j) k E) o φ := by
  intro Φ
  induction Φ with
  | nil => intro k E _ j φ h; simp at h
  | cons φ0 Φ ih =>
    intro k E hS j φ hj
    obtain ⟨h1, h2⟩ := hS
    cases j with
    | zero =>
      simp at hj
      subst hj
      cases ho : ops[k]? with
      | none => rw [ho] at h1; exact h1.elim
      | some o => rw [ho] at h1; exact ⟨o, by simp, h1.1⟩
    | succ j =>
      obtain ⟨o, ho, hh⟩ := ih (k + 1) _ h2 j φ (by simpa using hj)
      exact ⟨o, by rw [← ho]; congr 1; omega, by simpa [envL] using hh⟩
theorem lookA_envL : ∀ (Φ : List Asn) (k : Nat) (E : List (Nat × Asn)) (t : Nat) (ψ : Asn), lookA (envL ops Φ k E) t = some ψ →
    (∃ j, dstAt ops (k + j) = some t ∧ (∀ j', j < j' → j' < Φ.length → dstAt ops (k + j') ≠ some t) ∧ Φ[j]? = some ψ) ∨
    ((∀ j, j < Φ.length → dstAt ops (k + j) ≠ some t) ∧ lookA E t = some ψ) := by
  intro Φ
  induction Φ with
  | nil => intro k E t ψ h; exact .inr ⟨fun j hj => by simp at hj, h⟩
  | cons φ Φ ih =>
    intro k E t ψ h
    simp only [envL] at h
    rcases ih (k + 1) _ t ψ h with ⟨j, h1, h2, h3⟩ | ⟨h1, h2⟩
    · refine .inl ⟨j + 1, by rw [← h1]; congr 1; omega, fun j' hj hl => ?_, by simpa using h3⟩
      have := h2 (j' - 1) (by omega) (by simp at hl; omega)
      rwa [show k + 1 + (j' - 1) = k + j' by omega] at this
    · have h1' : ∀ j', 0 < j' → j' < (φ :: Φ).length → dstAt ops (k + j') ≠ some t := fun j' hj hl => by
        have := h1 (j' - 1) (by simp at hl; omega)
        rwa [show k + 1 + (j' - 1) = k + j' by omega] at this
      rcases lookA_push h2 with ⟨e, rfl⟩ | ⟨e, hl⟩
      · exact .inl ⟨0, e, fun j' hj hl => h1' j' hj hl, rfl⟩
      · refine .inr ⟨fun j hj => ?_, hl⟩
        cases j with
        | zero => exact e
        | succ j => exact h1' (j + 1) (by omega) hj

/-! ### Whatever order -/
theorem getD_false_of {S : Array Bool} {i : Nat} (h : S.getD i true = false) : S.getD i false = false := by
  rw [Array.getD_eq_getD_getElem?] at *
  cases hi : S[i]? with
  | none => rw [hi] at h; simp at h
  | some b => rw [hi] at h; simpa using h
theorem lt_of_getD_true {S : Array Bool} {i : Nat} (h : S.getD i false = true) : i < S.size := by
  rcases Nat.lt_or_ge i S.size with h' | h'
  · exact h'
  · simp [Array.getElem?_eq_none h'] at h
theorem getD_set_self {S : Array Bool} {i : Nat} (h : i < S.size) : (S.setIfInBounds i true).getD i false = true := by simp [h]
theorem count_set : ∀ (l : List Bool) (i : Nat), l[i]? = some false → (l.set i true).count false + 1 = l.count false := by
  intro l
  induction l with
  | nil => intro i h; simp at h
  | cons b l ih =>
    intro i h
    cases i with
    | zero => simp at h; subst h; simp
    | succ i =>
      simp at h
      have := ih i h
      cases b <;> simp <;> omega
theorem count_pos {l : List Bool} {i : Nat} (h : l[i]? = some false) : 0 < l.count false := List.count_pos_iff.2 (List.mem_of_getElem? h)
theorem getD_toList {S : Array Bool} {i : Nat} (h : S.getD i true = false) : S.toList[i]? = some false := by
  rw [Array.getD_eq_getD_getElem?] at h
  rw [Array.getElem?_toList]
  cases hi : S[i]? with
  | none => rw [hi] at h; simp at h
  | some b => rw [hi] at h; simp at h; rw [h]

def Closed (ops : Array Oper) (S : Array Bool) : Prop :=
  ∀ i o e, S.getD i false = true → ops[i]? = some o → e ∈ o.after → Region.binds .any e = true → S.getD e.on false = true
theorem Anc.listed {S : Array Bool} (hc : Closed ops S) {i j : Nat} (h : Anc ops j i) : S.getD i false = true → S.getD j false = true := by
  induction h with
  | one ho he hb hj => intro hi; subst hj; exact hc _ _ _ hi ho he hb
  | trans _ _ ih1 ih2 => intro hi; exact ih2 (ih1 hi)
theorem Anc.ready {S : Array Bool} (hc : Closed ops S) {i j : Nat} (h : Anc ops j i) : i ∈ Region.ready .any ops S → S.getD j false = true := by
  induction h with
  | one ho he hb hj =>
    intro hi
    obtain ⟨_, o, ho', hall⟩ := mem_ready.1 hi
    rw [ho] at ho'; cases ho'
    subst hj; exact hall _ he hb
  | trans _ h2 ih1 _ => intro hi; exact h2.listed hc (ih1 hi)
theorem Closed.set {S : Array Bool} (hc : Closed ops S) {i : Nat} (hi : i ∈ Region.ready .any ops S) : Closed ops (S.setIfInBounds i true) := by
  intro j o e hj ho he hb
  by_cases hij : i = j
  · subst hij
    obtain ⟨_, o', ho', hall⟩ := mem_ready.1 hi
    rw [ho] at ho'; cases ho'
    exact getD_set_true (hall _ he hb)
  · rw [getD_set_ne false hij] at hj
    exact getD_set_true (hc _ _ _ hj ho he hb)
theorem all_listed {S : Array Bool} (hedge : edgesOk ops = true) (hs : S.size = ops.size) (h : Region.ready .any ops S = []) : ∀ i, i < ops.size → S.getD i false = true := by
  intro i
  induction i using Nat.strongRecOn with
  | _ i ih =>
    intro hi
    cases hb : S.getD i false with
    | true => rfl
    | false =>
      exfalso
      have : i ∈ Region.ready .any ops S := by
        rw [mem_ready]
        refine ⟨?_, ops[i], Array.getElem?_eq_getElem hi, fun e he hbnd => ?_⟩
        · rw [Array.getD_eq_getD_getElem?] at hb ⊢
          rw [Array.getElem?_eq_getElem (by omega)] at hb ⊢
          simpa using hb
        · have := edgesOk_spec hedge (Array.getElem?_eq_getElem hi) he hbnd
          exact ih e.on this (by omega)
      rw [h] at this
      cases this

theorem any_tail {m : Nat} (hedge : edgesOk ops = true) (htail : tailOk ops m = true) : ∀ (fuel k : Nat) (S : Array Bool) (a : Act) (w : World), m ≤ k → S.size = ops.size →
    Closed ops S → (∀ i, S.getD i false = true ↔ i < k ∧ i < ops.size) → ops.size ≤ k + fuel → k ≤ ops.size → WI P r ops Q k a w → wpAnyIn (F0 r) 0 P .any ops Q fuel S a w := by
  intro fuel
  have fin : ∀ (S : Array Bool) (a : Act) (w : World), WI P r ops Q ops.size a w → Q .normal a w := fun S a w h => by simpa [WI, wpOpsIn] using h
  have done : ∀ (S : Array Bool), S.size = ops.size → (∀ i, i < ops.size → S.getD i false = true) → Region.ready .any ops S = [] := by
    intro S hs h
    rw [List.eq_nil_iff_forall_not_mem]
    intro i hi
    obtain ⟨h0, o, ho, _⟩ := mem_ready.1 hi
    have := h i (Array.getElem?_eq_some_iff.1 ho).1
    rw [getD_false_of h0] at this
    cases this
  induction fuel with
  | zero =>
    intro k S a w hk hs hc hS hf hkn hW
    obtain rfl : k = ops.size := by omega
    exact ⟨done S hs (fun i hi => (hS i).2 ⟨hi, hi⟩), fin S a w hW⟩
  | succ fuel ih =>
    intro k S a w hk hs hc hS hf hkn hW
    refine ⟨fun h0 => ?_, fun i hi => ?_⟩
    · have hall := all_listed hedge hs h0
      have : k = ops.size := by
        rcases Nat.lt_or_ge k ops.size with h | h
        · have := (hS k).1 (hall k h); omega
        · omega
      subst this
      exact fin S a w hW
    · obtain ⟨h0, o, ho, hedges⟩ := mem_ready.1 hi
      have hin : i < ops.size := (Array.getElem?_eq_some_iff.1 ho).1
      have hik : k ≤ i := by
        rcases Nat.lt_or_ge i k with h | h
        · have := (hS i).2 ⟨h, hin⟩; rw [getD_false_of h0] at this; cases this
        · exact h
      have : i = k := by
        rcases Nat.lt_or_ge k i with h | h
        · have := (tailOk_spec htail (by omega) hin h).ready hc hi
          have := ((hS k).1 this).1; omega
        · omega
      subst this
      have e : List.range' i (ops.size - i) = i :: List.range' (i + 1) (ops.size - (i + 1)) := by
        rw [show ops.size - i = (ops.size - (i + 1)) + 1 by omega, List.range'_succ]
      unfold WI at hW
      rw [e, wpOpsIn_cons] at hW
      refine wpOpIn_mono (fun a' w' h' => ih (i + 1) _ a' w' (by omega) (by simp [hs]) (hc.set hi) ?_ (by omega) (by omega) h') hW
      intro j
      by_cases hij : i = j
      · subst hij
        simp only [getD_set_self (show i < S.size by omega), true_iff]; omega
      · rw [getD_set_ne false hij, hS j]; omega

structure AInv (ops : Array Oper) (m : Nat) (Φ : List Asn) (E : List (Nat × Asn)) (D : World → Prop) (N : Nat) (ds : List Deferred) (S : Array Bool) (a : Act) (w : World) : Prop where
  ssz : S.size = ops.size
  low : ∀ i, S.getD i false = true → i < m
  closed : Closed ops S
  sz : a.tmps.size = N
  dfs : a.defers = ds
  tw : D w
  last : ∀ i d φ, S.getD i false = true → dstAt ops i = some d → (∀ k, i < k → S.getD k false = true → dstAt ops k ≠ some d) → Φ[i]? = some φ → φ (a.tmps.getD d undef) w
  base : ∀ t ψ, (∀ i, S.getD i false = true → dstAt ops i ≠ some t) → lookA E t = some ψ → ψ (a.tmps.getD t undef) w

theorem any_order {m : Nat} {Φ : List Asn} {E : List (Nat × Asn)} {ds : List Deferred} (hD : ∀ w w', D w → T w w' → D w') (hdst : dstOk ops N = true) (hord : ordOk ops m = true) (htail : tailOk ops m = true) (hedge : edgesOk ops = true)
    (hlen : Φ.length = m) (hmn : m ≤ ops.size) (hseg : Seg P r ops T D Φ 0 E) (hst : ∀ φ ∈ Φ, Stab T φ) (hstE : ∀ t ψ, lookA E t = some ψ → Stab T ψ)
    (hK : ∀ a' w', D w' → a'.tmps.size = N → a'.defers = ds → EnvOk (envL ops Φ 0 E) a' w' → WI P r ops Q m a' w') :
    ∀ (fuel : Nat) (S : Array Bool) (a : Act) (w : World), AInv ops m Φ E D N ds S a w → S.toList.count false ≤ fuel → wpAnyIn (F0 r) 0 P .any ops Q fuel S a w := by
  -- two operations that touch one slot
  have conf : ∀ {i j : Nat} {x y : Oper}, i < j → j < m → ops[i]? = some x → ops[j]? = some y → ((∃ d, x.dst = some d ∧ d ∈ y.looksAt ops) ∨ (∃ d, x.dst = some d ∧ y.dst = some d) ∨ (∃ d, y.dst = some d ∧ d ∈ x.looksAt ops)) → Anc ops i j := by
    intro i j x y hij hj hx hy hc
    rcases ordOk_spec hord hij hj hx hy with h | h
    · have hs := Oper.apart_spec h
      rcases hc with ⟨d, h1, h2⟩ | ⟨d, h1, h2⟩ | ⟨d, h1, h2⟩
      · exact absurd h2 (hs.1 d h1)
      · exact absurd h2 (hs.2.1 d h1)
      · exact absurd h2 (hs.2.2 d h1)
    · exact h
  -- when all of the first m are listed
  have full : ∀ (S : Array Bool) (a : Act) (w : World), AInv ops m Φ E D N ds S a w → (∀ i, i < m → S.getD i false = true) → WI P r ops Q m a w := by
    intro S a w hI hall
    refine hK a w hI.tw hI.sz hI.dfs ?_
    intro t ψ ht
    rcases lookA_envL Φ 0 E t ψ ht with ⟨j, h1, h2, h3⟩ | ⟨h1, h2⟩
    · have hj : j < m := by rw [← hlen]; exact (List.getElem?_eq_some_iff.1 h3).1
      rw [Nat.zero_add] at h1
      refine hI.last j t ψ (hall j hj) h1 (fun k hk hSk => ?_) h3
      have := h2 k hk (by rw [hlen]; exact hI.low k hSk)
      rwa [Nat.zero_add] at this
    · refine hI.base t ψ (fun i hi => ?_) h2
      have := h1 i (by rw [hlen]; exact hI.low i hi)
      rwa [Nat.zero_add] at this
  intro fuel
  induction fuel with
  | zero =>
    intro S a w hI hcnt
    have hall : ∀ i, i < ops.size → S.getD i false = true := by
      intro i hi
      cases hb : S.getD i false with
      | true => rfl
      | false =>
        have hti : S.getD i true = false := by
          rw [Array.getD_eq_getD_getElem?] at hb ⊢
          rw [Array.getElem?_eq_getElem (by rw [hI.ssz]; exact hi)] at hb ⊢
          simpa using hb
        have := count_pos (getD_toList hti)
        omega
    have hmeq : m = ops.size := by
      rcases Nat.lt_or_ge m ops.size with h | h
      · have := hI.low m (hall m h); omega
      · omega
    have hW := full S a w hI (fun i hi => hall i (by omega))
    refine any_tail hedge htail 0 m S a w (Nat.le_refl _) hI.ssz hI.closed (fun i => ?_) (by omega) (by omega) hW
    exact ⟨fun h => ⟨hI.low i h, by have := hI.low i h; omega⟩, fun h => hall i h.2⟩
  | succ fuel ih =>
    intro S a w hI hcnt
    refine ⟨fun h0 => ?_, fun i hi => ?_⟩
    · have hall := all_listed hedge hI.ssz h0
      have hmeq : m = ops.size := by
        rcases Nat.lt_or_ge m ops.size with h | h
        · have := hI.low m (hall m h); omega
        · omega
      have hW := full S a w hI (fun i hi => hall i (by omega))
      rw [hmeq] at hW
      simpa [WI, wpOpsIn] using hW
    · obtain ⟨h0, o, ho, hedges⟩ := mem_ready.1 hi
      have hin : i < ops.size := (Array.getElem?_eq_some_iff.1 ho).1
      have hiS : ¬ S.getD i false = true := by rw [getD_false_of h0]; simp
      by_cases him : i < m
      · -- one of the first m
        obtain ⟨o', ho', hop⟩ := seg_get Φ 0 E hseg i (Φ[i]'(by omega)) (List.getElem?_eq_getElem (by omega))
        rw [Nat.zero_add, ho] at ho'
        cases ho'
        have hd : dstAt ops i = o.dst := by simp [dstAt, ho]
        have hlook : ∀ t ∈ o.looksAt ops, ∀ ψ, lookA (envL ops (Φ.take i) 0 E) t = some ψ → ψ (a.tmps.getD t undef) w := by
          intro t ht ψ hl
          -- no later writer of t is listed
          have later : ∀ k, i < k → S.getD k false = true → dstAt ops k ≠ some t := by
            intro k hk hSk hdk
            have hkm := hI.low k hSk
            obtain ⟨y, hy, hyd⟩ : ∃ y, ops[k]? = some y ∧ y.dst = some t := by
              unfold dstAt at hdk
              cases hy : ops[k]? with
              | none => rw [hy] at hdk; simp at hdk
              | some y => rw [hy] at hdk; exact ⟨y, rfl, by simpa using hdk⟩
            exact hiS ((conf hk hkm ho hy (.inr (.inr ⟨t, hyd, ht⟩))).listed hI.closed hSk)
          rcases lookA_envL (Φ.take i) 0 E t ψ hl with ⟨j, h1, h2, h3⟩ | ⟨h1, h2⟩
          · rw [Nat.zero_add] at h1
            have hji : j < i := by
              have := (List.getElem?_eq_some_iff.1 h3).1
              rw [List.length_take] at this; omega
            have hlt : (Φ.take i).length = i := by rw [List.length_take]; omega
            obtain ⟨x, hx, hxd⟩ : ∃ x, ops[j]? = some x ∧ x.dst = some t := by
              unfold dstAt at h1
              cases hx : ops[j]? with
              | none => rw [hx] at h1; simp at h1
              | some x => rw [hx] at h1; exact ⟨x, rfl, by simpa using h1⟩
            have hSj := (conf hji him hx ho (.inl ⟨t, hxd, ht⟩)).ready hI.closed hi
            refine hI.last j t ψ hSj h1 (fun k hk hSk => ?_) ?_
            · rcases Nat.lt_trichotomy k i with hki | hki | hki
              · have := h2 k hk (by omega); rwa [Nat.zero_add] at this
              · subst hki; exact absurd hSk hiS
              · exact later k hki hSk
            · rw [List.getElem?_take, if_pos hji] at h3; exact h3
          · refine hI.base t ψ (fun k hSk => ?_) h2
            rcases Nat.lt_trichotomy k i with hki | hki | hki
            · have := h1 k (by rw [List.length_take]; omega); rwa [Nat.zero_add] at this
            · subst hki; exact absurd hSk hiS
            · exact later k hki hSk
        refine (hop a w hI.tw hlook).wpOpIn ho ?_
        rintro v w' ⟨hww, hφ⟩
        refine ih _ _ _ ?_ ?_
        · refine ⟨by simp [hI.ssz], fun j hj => ?_, hI.closed.set hi, by rw [put_size]; exact hI.sz, by rw [put_defers]; exact hI.dfs, hD _ _ hI.tw hww, ?_, ?_⟩
          · by_cases hij : i = j
            · subst hij; exact him
            · rw [getD_set_ne false hij] at hj; exact hI.low j hj
          · intro j d φ hSj hdj hlast hφj
            by_cases hij : i = j
            · subst hij
              rw [hd] at hdj
              rw [hdj, put_same (by rw [hI.sz]; exact dstOk_spec hdst ho hdj)]
              have : Φ[i]? = some (Φ[i]'(by omega)) := List.getElem?_eq_getElem (by omega)
              rw [this] at hφj
              cases hφj
              exact hφ
            · rw [getD_set_ne false hij] at hSj
              have hne : o.dst ≠ some d := by
                intro hod
                rcases Nat.lt_or_ge j i with hji | hji
                · exact hlast i hji (getD_set_self (by rw [hI.ssz]; exact hin)) (by rw [hd]; exact hod)
                · have hij' : i < j := by omega
                  obtain ⟨y, hy, hyd⟩ : ∃ y, ops[j]? = some y ∧ y.dst = some d := by
                    unfold dstAt at hdj
                    cases hy : ops[j]? with
                    | none => rw [hy] at hdj; simp at hdj
                    | some y => rw [hy] at hdj; exact ⟨y, rfl, by simpa using hdj⟩
                  exact hiS ((conf hij' (hI.low j hSj) ho hy (.inr (.inl ⟨d, hod, hyd⟩))).listed hI.closed hSj)
              rw [put_other hne]
              have hmem : φ ∈ Φ := List.mem_of_getElem? hφj
              refine hst φ hmem _ _ _ (hI.last j d φ hSj hdj (fun k hk hSk => hlast k hk (getD_set_true hSk)) hφj) hww
          · intro t ψ hnone hl
            have hne : o.dst ≠ some t := fun e => hnone i (getD_set_self (by rw [hI.ssz]; exact hin)) (by rw [hd]; exact e)
            rw [put_other hne]
            exact hstE t ψ hl _ _ _ (hI.base t ψ (fun k hk => hnone k (getD_set_true hk)) hl) hww
        · have h1 := count_set S.toList i (getD_toList h0)
          have h2 : (S.setIfInBounds i true).toList = S.toList.set i true := by simp
          rw [h2]; omega
      · -- the tail begins
        have hall : ∀ j, j < i → S.getD j false = true := fun j hj => (tailOk_spec htail (by omega) hin hj).ready hI.closed hi
        have him' : i = m := by
          rcases Nat.lt_or_ge m i with h | h
          · have := hI.low m (hall m h); omega
          · omega
        have hW := full S a w hI (fun j hj => hall j (by omega))
        have hSiff : ∀ j, S.getD j false = true ↔ j < m ∧ j < ops.size := fun j => ⟨fun h => ⟨hI.low j h, by have := hI.low j h; omega⟩, fun h => hall j (by omega)⟩
        have hle : ops.size ≤ m + (fuel + 1) := by
          -- the unlisted ones are those from m on
          have : ∀ (n k : Nat) (l : List Bool), l.length = n → (∀ j, k ≤ j → j < n → l[j]? = some false) → n ≤ k + l.count false := by
            intro n
            induction n with
            | zero => intro k l _ _; omega
            | succ n ihn =>
              intro k l hl hf
              cases l with
              | nil => simp at hl
              | cons b l =>
                cases k with
                | zero =>
                  have h0' := hf 0 (Nat.le_refl _) (by omega)
                  simp at h0'
                  subst h0'
                  have := ihn 0 l (by simpa using hl) (fun j _ hj => by simpa using hf (j + 1) (by omega) (by omega))
                  simp; omega
                | succ k =>
                  have := ihn k l (by simpa using hl) (fun j hj hjn => by simpa using hf (j + 1) (by omega) (by omega))
                  have hcl : l.count false ≤ (b :: l).count false := by cases b <;> simp
                  omega
          have := this ops.size m S.toList (by simpa using hI.ssz) (fun j hj hjn => by
            have hnot : ¬ S.getD j false = true := fun h => by have := hI.low j h; omega
            rw [Array.getElem?_toList]
            rw [Array.getD_eq_getD_getElem?, Array.getElem?_eq_getElem (by rw [hI.ssz]; exact hjn)] at hnot
            rw [Array.getElem?_eq_getElem (by rw [hI.ssz]; exact hjn)]
            simpa using hnot)
          omega
        exact (any_tail hedge htail (fuel + 1) m S a w (Nat.le_refl _) hI.ssz hI.closed hSiff hle hmn hW).2 i hi

theorem region_any {id m : Nat} {Φ : List Asn} {E : List (Nat × Asn)} {a : Act} {w : World} (hD : ∀ w w', D w → T w w' → D w') (hmo : P.follows .mixedOrders = true) (hdst : dstOk ops N = true) (hord : ordOk ops m = true) (htail : tailOk ops m = true)
    (hedge : edgesOk ops = true) (hlen : Φ.length = m) (hmn : m ≤ ops.size) (hseg : Seg P r ops T D Φ 0 E) (hst : ∀ φ ∈ Φ, Stab T φ) (hstE : ∀ t ψ, lookA E t = some ψ → Stab T ψ)
    (hN : a.tmps.size = N) (hE : EnvOk E a { w with drawn := w.drawn + 1 }) (hw : D { w with drawn := w.drawn + 1 })
    (hK : ∀ a' w', D w' → a'.tmps.size = N → a'.defers = a.defers → EnvOk (envL ops Φ 0 E) a' w' → WI P r ops Q m a' w') :
    WP P r (.region id ops true) Q a w := by
  refine wpIn_region_any hmo ?_
  have hnone : ∀ i, ¬ (Array.replicate ops.size false).getD i false = true := by
    intro i h
    have := lt_of_getD_true h
    simp at this
    simp [this] at h
  refine any_order hD hdst hord htail hedge hlen hmn hseg hst hstE hK ops.size _ a _ ⟨by simp, fun i h => absurd h (hnone i), fun i o e h => absurd h (hnone i), hN, rfl, hw, fun i d φ h => absurd h (hnone i), fun t ψ _ hl => hE t ψ hl⟩ ?_
  refine Nat.le_trans List.count_le_length ?_
  simp
end
end Go.Eng
