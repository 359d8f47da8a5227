/- The plain side of chapter 6, part 10: cuts, and proofs by cuts. -/
import Derived.Test.YtejffembnkojjaaC9PlanT
import Derived.Test.YtejffembnkojjaaC9PlanV
namespace Go.Plan
set_option linter.unusedVariables false
set_option linter.unusedSimpArgs false
abbrev CutD := List Int × Int
/-- What one more job brings. -/
def cut1 (FL : List Int → Option Nat) (k : Nat) (sub : List CutD) (y : List Int) : List CutD :=
  match FL y with
  | some q => [(y, (q : Int))]
  | none => if k = 0 then [(y, -1)] else sub
/-- The shortest beginnings behind which a job is late, in order; -1 for a whole sequence without one. -/
def cutL (N : Nat) (FL : List Int → Option Nat) : Nat → List Int → List CutD
  | 0, _ => []
  | k + 1, p => (List.range N).flatMap fun j : Nat => cut1 FL k (cutL N FL k (p ++ [(j : Int)])) (p ++ [(j : Int)])
theorem flatMap_le {α β : Type} {f : α → List β} {b : Nat} : ∀ (l : List α), (∀ x ∈ l, (f x).length ≤ b) → (l.flatMap f).length ≤ l.length * b
  | [], _ => by simp
  | a :: l, h => by
    rw [List.flatMap_cons, List.length_append, List.length_cons, Nat.succ_mul]
    have h1 := h a (by simp)
    have h2 := flatMap_le l (fun x hx => h x (by simp [hx]))
    omega
theorem cutL_len {N : Nat} (hN : 1 ≤ N) (FL : List Int → Option Nat) : ∀ k p, (cutL N FL k p).length ≤ N ^ k
  | 0, _ => by simp [cutL]
  | k + 1, p => by
    have hp : 1 ≤ N ^ k := Nat.pow_pos hN
    rw [cutL, Nat.pow_succ, Nat.mul_comm]
    have := flatMap_le (b := N ^ k) (f := fun j : Nat => cut1 FL k (cutL N FL k (p ++ [(j : Int)])) (p ++ [(j : Int)])) (List.range N) (fun j _ => by
      unfold cut1
      cases FL (p ++ [(j : Int)]) with
      | some q => simpa using hp
      | none =>
        show (if k = 0 then [(p ++ [(j : Int)], (-1 : Int))] else cutL N FL k (p ++ [(j : Int)])).length ≤ N ^ k
        split
        · simpa using hp
        · exact cutL_len hN FL k _)
    rwa [List.length_range] at this
theorem cutL_mem {N : Nat} {FL : List Int → Option Nat} : ∀ k p c, c ∈ cutL N FL k p → ∃ t, c.1 = p ++ t ∧ 1 ≤ t.length ∧ t.length ≤ k ∧ okS N t ∧ ((∃ q : Nat, FL c.1 = some q ∧ c.2 = (q : Int)) ∨ (FL c.1 = none ∧ c.2 = -1 ∧ t.length = k))
  | 0, _, _, h => by simp [cutL] at h
  | k + 1, p, c, h => by
    simp only [cutL, List.mem_flatMap, List.mem_range] at h
    obtain ⟨j, hj, h⟩ := h
    unfold cut1 at h
    have hj1 : okS N [(j : Int)] := okS_mem.2 fun x hx => by rw [List.mem_singleton] at hx; omega
    cases hF : FL (p ++ [(j : Int)]) with
    | some q =>
      rw [hF] at h
      simp only [List.mem_singleton] at h
      subst h
      exact ⟨[(j : Int)], rfl, by simp, by simp, hj1, Or.inl ⟨q, hF, rfl⟩⟩
    | none =>
      rw [hF] at h
      dsimp only at h
      split at h
      · rename_i hk
        rw [List.mem_singleton] at h
        subst h
        exact ⟨[(j : Int)], rfl, by simp, by simp, hj1, Or.inr ⟨hF, rfl, by simp [hk]⟩⟩
      · obtain ⟨t, h1, h2, h3, h4, h5⟩ := cutL_mem k _ c h
        refine ⟨(j : Int) :: t, by rw [h1]; simp, by simp, by simp; omega, okS_mem.2 fun x hx => ?_, ?_⟩
        · rcases List.mem_cons.1 hx with rfl | hx
          · omega
          · exact okS_mem.1 h4 x hx
        · rcases h5 with h5 | ⟨a, b, c⟩
          · exact Or.inl h5
          · exact Or.inr ⟨a, b, by simp [c]⟩
/-- A sequence without a late job is there. -/
theorem cutL_whole {N : Nat} {FL : List Int → Option Nat} : ∀ k p t, t.length = k → 1 ≤ k → okS N t → (∀ m, 1 ≤ m → m ≤ k → FL (p ++ t.take m) = none) → (p ++ t, (-1 : Int)) ∈ cutL N FL k p
  | 0, _, _, _, h, _, _ => by omega
  | k + 1, p, [], h, _, _, _ => by simp at h
  | k + 1, p, x :: t, h, _, hs, hn => by
    have hx := okS_mem.1 hs x (by simp)
    simp only [cutL, List.mem_flatMap, List.mem_range]
    refine ⟨x.toNat, by omega, ?_⟩
    rw [Int.toNat_of_nonneg hx.1]
    have h1 := hn 1 (by omega) (by omega)
    simp only [List.take_succ_cons, List.take_zero] at h1
    unfold cut1
    rw [h1]
    dsimp only
    by_cases hk : k = 0
    · subst hk
      have : t = [] := List.length_eq_zero_iff.1 (by simpa using h)
      subst this
      simp
    · rw [if_neg hk]
      have := cutL_whole k (p ++ [x]) t (by simpa using h) (by omega) (okS_mem.2 fun y hy => okS_mem.1 hs y (by simp [hy])) (fun m h1 h2 => by
        have := hn (m + 1) (by omega) (by omega)
        simpa using this)
      simpa using this
theorem cutL_ne {N : Nat} (hN : 1 ≤ N) {FL : List Int → Option Nat} : ∀ k p, 1 ≤ k → cutL N FL k p ≠ []
  | 0, _, h => by omega
  | k + 1, p, _ => by
    intro h
    rw [cutL, List.flatMap_eq_nil_iff] at h
    have h0 := h 0 (List.mem_range.2 hN)
    unfold cut1 at h0
    cases hF : FL (p ++ [((0 : Nat) : Int)]) with
    | some q => rw [hF] at h0; simp at h0
    | none =>
      rw [hF] at h0
      dsimp only at h0
      split at h0
      · simp at h0
      · exact cutL_ne hN k _ (by omega) h0
/-! ### Proofs -/
def covF (f : List Int → List CutD → Option (List CutD)) (p : List Int) : List Nat → List CutD → Option (List CutD)
  | [], cs => some cs
  | j :: js, cs => (f (p ++ [(j : Int)]) cs).bind (covF f p js)
/-- What is left of some cuts behind those of all sequences that begin like one. -/
def cov (N : Nat) (V : List Int → Int → Bool) : Nat → List Int → List CutD → Option (List CutD)
  | _, _, [] => none
  | 0, p, c :: cs => if c.1.take p.length = p ∧ p.length ≤ c.1.length then (if p ≠ [] ∧ c.1.length = p.length then (if V p c.2 then some cs else none) else none) else none
  | d + 1, p, c :: cs => if c.1.take p.length = p ∧ p.length ≤ c.1.length then (if p ≠ [] ∧ c.1.length = p.length then (if V p c.2 then some cs else none) else covF (cov N V d) p (List.range N) (c :: cs)) else none
theorem cov_step (N : Nat) (V : List Int → Int → Bool) (d : Nat) (p : List Int) (c : CutD) (cs : List CutD) : cov N V (d + 1) p (c :: cs) = if c.1.take p.length = p ∧ p.length ≤ c.1.length then (if p ≠ [] ∧ c.1.length = p.length then (if V p c.2 then some cs else none) else covF (cov N V d) p (List.range N) (c :: cs)) else none := rfl
/-- The cuts of a search are a proof. -/
theorem cov_cutL {N : Nat} (hN : 1 ≤ N) {FL : List Int → Option Nat} {V : List Int → Int → Bool} (hV : ∀ y q, FL y = some q → V y (q : Int) = true) : ∀ k d p rest, 1 ≤ k → k ≤ d → (∀ c ∈ cutL N FL k p, 0 ≤ c.2) → covF (cov N V d) p (List.range N) (cutL N FL k p ++ rest) = some rest := by
  intro k
  induction k with
  | zero => intro d p rest h; omega
  | succ k ih =>
    intro d p rest _ hkd hc
    obtain ⟨d, rfl⟩ : ∃ e, d = e + 1 := ⟨d - 1, by omega⟩
    have main : ∀ js : List Nat, (∀ c ∈ js.flatMap (fun j : Nat => cut1 FL k (cutL N FL k (p ++ [(j : Int)])) (p ++ [(j : Int)])), 0 ≤ c.2) → covF (cov N V (d + 1)) p js ((js.flatMap fun j : Nat => cut1 FL k (cutL N FL k (p ++ [(j : Int)])) (p ++ [(j : Int)])) ++ rest) = some rest := by
      intro js
      induction js with
      | nil => intro _; rfl
      | cons j js ihj =>
        intro hcj
        rw [List.flatMap_cons, List.append_assoc]
        simp only [covF]
        have hstep : ∀ r, cov N V (d + 1) (p ++ [(j : Int)]) (cut1 FL k (cutL N FL k (p ++ [(j : Int)])) (p ++ [(j : Int)]) ++ r) = some r := by
          intro r
          have hcj1 : ∀ c ∈ cut1 FL k (cutL N FL k (p ++ [(j : Int)])) (p ++ [(j : Int)]), 0 ≤ c.2 := fun c h => hcj c (by rw [List.flatMap_cons]; simp [h])
          unfold cut1 at hcj1 ⊢
          cases hF : FL (p ++ [(j : Int)]) with
          | some q =>
            dsimp only [List.cons_append, List.nil_append]
            rw [cov_step, if_pos ⟨List.take_length, Nat.le_refl _⟩, if_pos (by simp), if_pos (hV _ _ hF)]
          | none =>
            rw [hF] at hcj1
            dsimp only at hcj1 ⊢
            by_cases hk : k = 0
            · rw [if_pos hk] at hcj1
              have := hcj1 (p ++ [(j : Int)], -1) (by simp)
              simp at this
            · rw [if_neg hk] at hcj1 ⊢
              have hne := cutL_ne hN (FL := FL) k (p ++ [(j : Int)]) (by omega)
              have hih := ih d (p ++ [(j : Int)]) r (by omega) (by omega) hcj1
              cases hL : cutL N FL k (p ++ [(j : Int)]) with
              | nil => exact absurd hL hne
              | cons c cs =>
                obtain ⟨t, h1, h2, _⟩ := cutL_mem k _ c (by rw [hL]; simp)
                rw [hL] at hih
                rw [List.cons_append, cov_step, if_pos ⟨by rw [h1]; exact List.take_left, by rw [h1]; simp⟩, if_neg (by rw [h1]; simp; intro e; subst e; simp at h2)]
                exact hih
        rw [hstep, Option.bind_some]
        exact ihj (fun c h => hcj c (by rw [List.flatMap_cons]; simp only [List.mem_append]; exact Or.inr h))
    have := main (List.range N) (fun c h => hc c (by rw [cutL]; exact h))
    rw [cutL]
    exact this
/-! ### Rounds that are repeated -/
theorem rp_add (s : List Int) (c : Nat) : ∀ d, rp s (c + d) = rp s c ++ rp s d
  | 0 => by simp [rp]
  | d + 1 => by rw [← Nat.add_assoc, rp, rp_add s c d, rp, List.append_assoc]
theorem gapD_rp (r : RadarD) (l : List JobD) {s : List Int} (hs : s ≠ []) (c : Nat) (j : Int) : gapD r l (rp s (c + 1)) j = gapD r l s j := by
  have hne : rp s (c + 1) ≠ [] := by rw [rp]; simp [hs]
  rw [← wait_rp hne 0 j]
  have e : rp (rp s (c + 1)) (0 + 2) = rp s (2 * c + 2) := by
    show ([] ++ rp s (c + 1)) ++ rp s (c + 1) = _
    rw [List.nil_append, ← rp_add]
    congr 1; omega
  rw [e]
  exact wait_rp hs (2 * c) j
theorem kept_rp {r : RadarD} {l : List JobD} {s : List Int} (hs : okS l.length s) (hne : s ≠ []) (c : Nat) : keptB r l (rp s (c + 1)) = keptB r l s := by
  have h1 := keptB_iff (r := r) (rp_ok hs (c + 1))
  have h2 := keptB_iff (r := r) hs
  have h3 : keptB r l (rp s (c + 1)) = true ↔ keptB r l s = true := by
    rw [h1, h2]
    constructor
    · intro h i hi; rw [← gapD_rp r l hne c]; exact h i hi
    · intro h i hi; rw [gapD_rp r l hne c]; exact h i hi
  cases ha : keptB r l s with
  | true => exact h3.2 ha
  | false =>
    cases hb : keptB r l (rp s (c + 1)) with
    | true => rw [h3.1 hb] at ha; exact absurd ha (by simp)
    | false => rfl
/-- Where a round is kept, there is no proof. -/
theorem kept_cut {r : RadarD} {l : List JobD} (hr : radarOk r = true) (hl : okJ l) {s : List Int} (hs : okS l.length s) (hne : s ≠ []) (hk : keptB r l s = true) {FL : List Int → Option Nat} (hFL : ∀ y, FL y = none ↔ anyLate r l y = false) {k : Nat} (h1 : 1 ≤ k) :
    ∃ c ∈ cutL l.length FL k [], c.2 < 0 := by
  obtain ⟨c, rfl⟩ : ∃ c, k = c + 1 := ⟨k - 1, by omega⟩
  have hsl : 1 ≤ s.length := by cases s with
    | nil => exact absurd rfl hne
    | cons _ _ => simp
  have hlen := rp_len s (c + 1)
  have hge : c + 1 ≤ (c + 1) * s.length := Nat.le_mul_of_pos_right _ hsl
  have hok := rp_ok hs (c + 1)
  refine ⟨([] ++ (rp s (c + 1)).take (c + 1), -1), cutL_whole (c + 1) [] _ (by simp; omega) (by omega) (okS_take hok) (fun m m1 m2 => ?_), by show (-1 : Int) < 0; decide⟩
  rw [List.nil_append, List.take_take, Nat.min_eq_left m2, hFL]
  cases ha : anyLate r l ((rp s (c + 1)).take m) with
  | false => rfl
  | true =>
    have := anyLate_kept hr hl (p := (rp s (c + 1)).take m) (q := (rp s (c + 1)).drop m) (by intro e; have := congrArg List.length e; rw [List.length_take, List.length_nil] at this; omega) (by rw [List.take_append_drop]; exact hok) ha
    rw [List.take_append_drop, kept_rp hs hne, hk] at this
    exact absurd this (by simp)
end Go.Plan
