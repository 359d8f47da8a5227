/- The plain side of chapter 6, part 10: cuts, and proofs by cuts. -/
import Derived.Test.YtejffembnkojjaaC10PlanT
import Derived.Test.YtejffembnkojjaaC10PlanV
namespace Go.Plan
set_option linter.unusedVariables false
set_option linter.unusedSimpArgs false
abbrev CutD := List Int × Int
/-- What one more job brings. -/
def cut1 (FL : List Int → Option Nat) (k : Nat) (sub : List CutD) (y : List Int) : List CutD :=
  match FL y with
  | some q => [(y, (q : Int))]
  | none => if k = 0 then [(y, -1)] else sub
/-- The shortest beginnings behind which a job is late, in order; -1 for a whole sequence without one. -/
def cutL (N : Nat) (FL : List Int → Option Nat) : Nat → List Int → List CutD
  | 0, _ => []
  | k + 1, p => (List.range N).flatMap fun j : Nat => cut1 FL k (cutL N FL k (p ++ [(j : Int)])) (p ++ [(j : Int)])
theorem flatMap_le {α β : Type} {f : α → List β} {b : Nat} : ∀ (l : List α), (∀ x ∈ l, (f x).length ≤ b) → (l.flatMap f).length ≤ l.length * b
  | [], _ => by simp
  | a :: l, h => by
    rw [List.flatMap_cons, List.length_append, List.length_cons, Nat.succ_mul]
    have h1 := h a (by simp)
    have h2 := flatMap_le l (fun x hx => h x (by simp [hx]))
    omega
theorem cutL_len {N : Nat} (hN : 1 ≤ N) (FL : List Int → Option Nat) : ∀ k p, (cutL N FL k p).length ≤ N ^ k
  | 0, _ => by simp [cutL]
  | k + 1, p => by
    have hp : 1 ≤ N ^ k := Nat.pow_pos hN
    rw [cutL, Nat.pow_succ, Nat.mul_comm]
    have := flatMap_le (b := N ^ k) (f := fun j : Nat => cut1 FL k (cutL N FL k (p ++ [(j : Int)])) (p ++ [(j : Int)])) (List.range N) (fun j _ => by
      unfold cut1
      cases FL (p ++ [(j : Int)]) with
      | some q => simpa using hp
      | none =>
        show (if k = 0 then [(p ++ [(j : Int)], (-1 : Int))] else cutL N FL k (p ++ [(j : Int)])).length ≤ N ^ k
        split
        · simpa using hp
        · exact cutL_len hN FL k _)
    rwa [List.length_range] at this
theorem cutL_mem {N : Nat} {FL : List Int → Option Nat} : ∀ k p c, c ∈ cutL N FL k p → ∃ t, c.1 = p ++ t ∧ 1 ≤ t.length ∧ t.length ≤ k ∧ okS N t ∧ ((∃ q : Nat, FL c.1 = some q ∧ c.2 = (q : Int)) ∨ (FL c.1 = none ∧ c.2 = -1 ∧ t.length = k))
  | 0, _, _, h => by simp [cutL] at h
  | k + 1, p, c, h => by
    simp only [cutL, List.mem_flatMap, List.mem_range] at h
    obtain ⟨j, hj, h⟩ := h
    unfold cut1 at h
    have hj1 : okS N [(j : Int)] := okS_mem.2 fun x hx => by rw [List.mem_singleton] at hx; omega
    cases hF : FL (p ++ [(j : Int)]) with
    | some q =>
      rw [hF] at h
      simp only [List.mem_singleton] at h
      subst h
      exact ⟨[(j : Int)], rfl, by simp, by simp, hj1, Or.inl ⟨q, hF, rfl⟩⟩
    | none =>
      rw [hF] at h
      dsimp only at h
      split at h
      · rename_i hk
        rw [List.mem_singleton] at h
        subst h
        exact ⟨[(j : Int)], rfl, by simp, by simp, hj1, Or.inr ⟨hF, rfl, by simp [hk]⟩⟩
      · obtain ⟨t, h1, h2, h3, h4, h5⟩ := cutL_mem k _ c h
        refine ⟨(j : Int) :: t, by rw [h1]; simp, by simp, by simp; omega, okS_mem.2 fun x hx => ?_, ?_⟩
        · rcases List.mem_cons.1 hx with rfl | hx
          · omega
          · exact okS_mem.1 h4 x hx
        · rcases h5 with h5 | ⟨a, b, c⟩
          · exact Or.inl h5
          · exact Or.inr ⟨a, b, by simp [c]⟩
theorem cutL_ne {N : Nat} (hN : 1 ≤ N) {FL : List Int → Option Nat} : ∀ k p, 1 ≤ k → cutL N FL k p ≠ []
  | 0, _, h => by omega
  | k + 1, p, _ => by
    intro h
    rw [cutL, List.flatMap_eq_nil_iff] at h
    have h0 := h 0 (List.mem_range.2 hN)
    unfold cut1 at h0
    cases hF : FL (p ++ [((0 : Nat) : Int)]) with
    | some q => rw [hF] at h0; simp at h0
    | none =>
      rw [hF] at h0
      dsimp only at h0
      split at h0
      · simp at h0
      · exact cutL_ne hN k _ (by omega) h0
/-! ### Proofs -/
def covF (f : List Int → List CutD → Option (List CutD)) (p : List Int) : List Nat → List CutD → Option (List CutD)
  | [], cs => some cs
  | j :: js, cs => (f (p ++ [(j : Int)]) cs).bind (covF f p js)
/-- What is left of some cuts behind those of all sequences that begin like one. -/
def cov (N : Nat) (V : List Int → Int → Bool) : Nat → List Int → List CutD → Option (List CutD)
  | _, _, [] => none
  | 0, p, c :: cs => if c.1.take p.length = p ∧ p.length ≤ c.1.length then (if p ≠ [] ∧ c.1.length = p.length then (if V p c.2 then some cs else none) else none) else none
  | d + 1, p, c :: cs => if c.1.take p.length = p ∧ p.length ≤ c.1.length then (if p ≠ [] ∧ c.1.length = p.length then (if V p c.2 then some cs else none) else covF (cov N V d) p (List.range N) (c :: cs)) else none
theorem cov_step (N : Nat) (V : List Int → Int → Bool) (d : Nat) (p : List Int) (c : CutD) (cs : List CutD) : cov N V (d + 1) p (c :: cs) = if c.1.take p.length = p ∧ p.length ≤ c.1.length then (if p ≠ [] ∧ c.1.length = p.length then (if V p c.2 then some cs else none) else covF (cov N V d) p (List.range N) (c :: cs)) else none := rfl
/-- What was used: all of it valid, and of one whole. -/
structure Used (N : Nat) (V : List Int → Int → Bool) (d : Nat) (p : List Int) (u : List CutD) : Prop where
  v : ∀ c ∈ u, V c.1 c.2 = true ∧ c.1 ≠ [] ∧ ∃ t, c.1 = p ++ t ∧ t.length ≤ d ∧ okS N t
  w : (u.map fun c => N ^ (p.length + d - c.1.length)).sum = N ^ d
theorem take_eq {p q : List Int} (h : q.take p.length = p) (h2 : p.length ≤ q.length) (h3 : q.length = p.length) : q = p := by
  rw [List.take_of_length_le (by omega)] at h; exact h
theorem covF_used {N : Nat} {V : List Int → Int → Bool} {d : Nat} {p : List Int} (ih : ∀ p cs rest, cov N V d p cs = some rest → ∃ u, cs = u ++ rest ∧ Used N V d p u) : ∀ (js : List Nat) (cs rest : List CutD), (∀ j ∈ js, j < N) → covF (cov N V d) p js cs = some rest → ∃ u, cs = u ++ rest ∧ (∀ c ∈ u, V c.1 c.2 = true ∧ c.1 ≠ [] ∧ ∃ t, c.1 = p ++ t ∧ t.length ≤ d + 1 ∧ okS N t) ∧ (u.map fun c => N ^ (p.length + (d + 1) - c.1.length)).sum = js.length * N ^ d
  | [], cs, rest, _, h => by
    simp only [covF, Option.some.injEq] at h
    subst h
    exact ⟨[], rfl, by simp, by simp⟩
  | j :: js, cs, rest, hj, h => by
    simp only [covF] at h
    obtain ⟨mid, h1, h2⟩ := Option.bind_eq_some_iff.1 h
    obtain ⟨u1, e1, hu1⟩ := ih _ _ _ h1
    obtain ⟨u2, e2, hu2, hs2⟩ := covF_used ih js mid rest (fun j hj' => hj j (by simp [hj'])) h2
    have hjN := hj j (by simp)
    refine ⟨u1 ++ u2, by rw [e1, e2, List.append_assoc], fun c hc => ?_, ?_⟩
    · rcases List.mem_append.1 hc with hc | hc
      · obtain ⟨a1, a2, t, a3, a4, a5⟩ := hu1.v c hc
        refine ⟨a1, a2, (j : Int) :: t, by rw [a3]; simp, by simp; omega, okS_mem.2 fun x hx => ?_⟩
        rcases List.mem_cons.1 hx with rfl | hx
        · omega
        · exact okS_mem.1 a5 x hx
      · exact hu2 c hc
    · have hw := hu1.w
      rw [List.map_append, List.sum_append, hs2, List.length_cons, Nat.succ_mul]
      rw [show p.length + (d + 1) = (p ++ [(j : Int)]).length + d by simp; omega, hw]
      omega
theorem cov_used {N : Nat} {V : List Int → Int → Bool} : ∀ d p cs rest, cov N V d p cs = some rest → ∃ u, cs = u ++ rest ∧ Used N V d p u := by
  intro d
  induction d with
  | zero =>
    intro p cs rest h
    cases cs with
    | nil => simp [cov] at h
    | cons c cs =>
      rw [cov] at h
      split at h
      · rename_i h1
        split at h
        · rename_i h2
          split at h
          · rename_i h3
            simp only [Option.some.injEq] at h
            subst h
            have e := take_eq h1.1 h1.2 h2.2
            refine ⟨[c], rfl, fun c' hc' => ?_, by simp [h2.2]⟩
            rw [List.mem_singleton] at hc'
            subst hc'
            exact ⟨by rw [e]; exact h3, by rw [e]; exact h2.1, [], by simp [e], by simp, okS_nil N⟩
          · simp at h
        · simp at h
      · simp at h
  | succ d ih =>
    intro p cs rest h
    cases cs with
    | nil => simp [cov] at h
    | cons c cs =>
      rw [cov_step] at h
      split at h
      · rename_i h1
        split at h
        · rename_i h2
          split at h
          · rename_i h3
            simp only [Option.some.injEq] at h
            subst h
            have e := take_eq h1.1 h1.2 h2.2
            refine ⟨[c], rfl, fun c' hc' => ?_, by simp [h2.2]⟩
            rw [List.mem_singleton] at hc'
            subst hc'
            exact ⟨by rw [e]; exact h3, by rw [e]; exact h2.1, [], by simp [e], by simp, okS_nil N⟩
          · simp at h
        · obtain ⟨u, e, hu, hs⟩ := covF_used ih (List.range N) (c :: cs) rest (fun j hj => List.mem_range.1 hj) h
          refine ⟨u, e, hu, ?_⟩
          rw [hs, List.length_range, Nat.pow_succ, Nat.mul_comm]
      · simp at h
/-- With more that is valid, what was a proof is one. -/
theorem covF_mono {f g : List Int → List CutD → Option (List CutD)} {p : List Int} {P : CutD → Prop} (ih : ∀ p cs rest, (∀ c ∈ cs, P c) → f p cs = some rest → g p cs = some rest) (hsub : ∀ p cs rest, f p cs = some rest → ∀ c ∈ rest, c ∈ cs) : ∀ (js : List Nat) (cs rest : List CutD), (∀ c ∈ cs, P c) → covF f p js cs = some rest → covF g p js cs = some rest
  | [], _, _, _, h => h
  | j :: js, cs, rest, hP, h => by
    simp only [covF] at h ⊢
    obtain ⟨mid, h1, h2⟩ := Option.bind_eq_some_iff.1 h
    rw [ih _ _ _ hP h1, Option.bind_some]
    exact covF_mono ih hsub js mid rest (fun c hc => hP c (hsub _ _ _ h1 c hc)) h2
theorem cov_mono {N : Nat} {V W : List Int → Int → Bool} {P : CutD → Prop} (hVW : ∀ c : CutD, P c → V c.1 c.2 = true → W c.1 c.2 = true) : ∀ d p cs rest, (∀ c ∈ cs, P c) → cov N V d p cs = some rest → cov N W d p cs = some rest := by
  intro d
  induction d with
  | zero =>
    intro p cs rest hP h
    cases cs with
    | nil => simp [cov] at h
    | cons c cs =>
      rw [cov] at h ⊢
      split at h
      · rename_i h1
        rw [if_pos h1]
        split at h
        · rename_i h2
          rw [if_pos h2]
          split at h
          · rename_i h3
            have e := take_eq h1.1 h1.2 h2.2
            have := hVW c (hP c (by simp)) (by rw [e]; exact h3)
            rw [e] at this
            rw [if_pos this]; exact h
          · simp at h
        · simp at h
      · simp at h
  | succ d ih =>
    intro p cs rest hP h
    cases cs with
    | nil => simp [cov] at h
    | cons c cs =>
      rw [cov_step] at h ⊢
      split at h
      · rename_i h1
        rw [if_pos h1]
        split at h
        · rename_i h2
          rw [if_pos h2]
          split at h
          · rename_i h3
            have e := take_eq h1.1 h1.2 h2.2
            have := hVW c (hP c (by simp)) (by rw [e]; exact h3)
            rw [e] at this
            rw [if_pos this]; exact h
          · simp at h
        · rename_i h2
          rw [if_neg h2]
          exact covF_mono (P := P) (fun p cs rest hP h => ih p cs rest hP h) (fun p cs rest h c hc => by
            obtain ⟨u, e, _⟩ := cov_used d p cs rest h
            rw [e]; simp [hc]) _ _ _ hP h
      · simp at h
/-- The cuts of a search are a proof. -/
theorem cov_cutL {N : Nat} (hN : 1 ≤ N) {FL : List Int → Option Nat} {V : List Int → Int → Bool} (hV : ∀ y q, FL y = some q → V y (q : Int) = true) : ∀ k d p rest, 1 ≤ k → k ≤ d → (∀ c ∈ cutL N FL k p, 0 ≤ c.2) → covF (cov N V d) p (List.range N) (cutL N FL k p ++ rest) = some rest := by
  intro k
  induction k with
  | zero => intro d p rest h; omega
  | succ k ih =>
    intro d p rest _ hkd hc
    obtain ⟨d, rfl⟩ : ∃ e, d = e + 1 := ⟨d - 1, by omega⟩
    have main : ∀ js : List Nat, (∀ c ∈ js.flatMap (fun j : Nat => cut1 FL k (cutL N FL k (p ++ [(j : Int)])) (p ++ [(j : Int)])), 0 ≤ c.2) → covF (cov N V (d + 1)) p js ((js.flatMap fun j : Nat => cut1 FL k (cutL N FL k (p ++ [(j : Int)])) (p ++ [(j : Int)])) ++ rest) = some rest := by
      intro js
      induction js with
      | nil => intro _; rfl
      | cons j js ihj =>
        intro hcj
        rw [List.flatMap_cons, List.append_assoc]
        simp only [covF]
        have hstep : ∀ r, cov N V (d + 1) (p ++ [(j : Int)]) (cut1 FL k (cutL N FL k (p ++ [(j : Int)])) (p ++ [(j : Int)]) ++ r) = some r := by
          intro r
          have hcj1 : ∀ c ∈ cut1 FL k (cutL N FL k (p ++ [(j : Int)])) (p ++ [(j : Int)]), 0 ≤ c.2 := fun c h => hcj c (by rw [List.flatMap_cons]; simp [h])
          unfold cut1 at hcj1 ⊢
          cases hF : FL (p ++ [(j : Int)]) with
          | some q =>
            dsimp only [List.cons_append, List.nil_append]
            rw [cov_step, if_pos ⟨List.take_length, Nat.le_refl _⟩, if_pos (by simp), if_pos (hV _ _ hF)]
          | none =>
            rw [hF] at hcj1
            dsimp only at hcj1 ⊢
            by_cases hk : k = 0
            · rw [if_pos hk] at hcj1
              have := hcj1 (p ++ [(j : Int)], -1) (by simp)
              simp at this
            · rw [if_neg hk] at hcj1 ⊢
              have hne := cutL_ne hN (FL := FL) k (p ++ [(j : Int)]) (by omega)
              have hih := ih d (p ++ [(j : Int)]) r (by omega) (by omega) hcj1
              cases hL : cutL N FL k (p ++ [(j : Int)]) with
              | nil => exact absurd hL hne
              | cons c cs =>
                obtain ⟨t, h1, h2, _⟩ := cutL_mem k _ c (by rw [hL]; simp)
                rw [hL] at hih
                rw [List.cons_append, cov_step, if_pos ⟨by rw [h1]; exact List.take_left, by rw [h1]; simp⟩, if_neg (by rw [h1]; simp; intro e; subst e; simp at h2)]
                exact hih
        rw [hstep, Option.bind_some]
        exact ihj (fun c h => hcj c (by rw [List.flatMap_cons]; simp only [List.mem_append]; exact Or.inr h))
    have := main (List.range N) (fun c h => hc c (by rw [cutL]; exact h))
    rw [cutL]
    exact this
/-! ### Rounds that are repeated -/
/-! ### Occurrences -/
end Go.Plan
