/- The plain side of chapter 6, part 11: the document's list of cuts is that of the search. -/
import Derived.Test.YtejffembnkojjaaC6PlanX
namespace Go.Plan
set_option linter.unusedVariables false
set_option linter.unusedSimpArgs false
/-- The shortest late beginning of a sequence. -/
def cutAt (FL : List Int → Option Nat) (q : List Int) : Nat → Nat → Nat × Int
  | 0, n => (n, -1)
  | c + 1, n => match FL (q.take (n + 1)) with
    | some j => (n + 1, (j : Int))
    | none => cutAt FL q c (n + 1)
def lastC (out : List CutD) : List Int := (out.getD (out.length - 1) ([], 0)).1
def stepR (FL : List Int → Option Nat) (most : Nat) (out : List CutD) (q : List Int) : Option (List CutD) :=
  if (cutAt FL q most 0).2 < 0 then none
  else if out = [] ∨ ¬ (q.take (lastC out).length = lastC out ∧ (lastC out).length ≤ q.length) then some (out ++ [(q.take (cutAt FL q most 0).1, (cutAt FL q most 0).2)]) else some out
def foldR (FL : List Int → Option Nat) (most : Nat) : List CutD → List (List Int) → Option (List CutD)
  | out, [] => some out
  | out, q :: qs => (stepR FL most out q).bind fun o => foldR FL most o qs
theorem foldR_append (FL : List Int → Option Nat) (most : Nat) : ∀ (a b : List (List Int)) (out : List CutD), foldR FL most out (a ++ b) = (foldR FL most out a).bind fun o => foldR FL most o b
  | [], b, out => rfl
  | q :: a, b, out => by
    simp only [List.cons_append, foldR]
    cases stepR FL most out q with
    | none => rfl
    | some o => simp only [Option.bind_some]; exact foldR_append FL most a b o
theorem lastC_snoc (out : List CutD) (c : CutD) : lastC (out ++ [c]) = c.1 := by
  unfold lastC
  simp
/-- Up to a late beginning there is none. -/
theorem cutAt_skip {FL : List Int → Option Nat} {q : List Int} : ∀ (m c n : Nat), (∀ k, n < k → k ≤ n + m → FL (q.take k) = none) → cutAt FL q (m + c) n = cutAt FL q c (n + m)
  | 0, c, n, _ => by simp
  | m + 1, c, n, h => by
    rw [show m + 1 + c = (m + c) + 1 by omega, cutAt, h (n + 1) (by omega) (by omega)]
    show cutAt FL q (m + c) (n + 1) = _
    rw [cutAt_skip m c (n + 1) (fun k h1 h2 => h k (by omega) (by omega)), show n + 1 + m = n + (m + 1) by omega]
/-- Sequences that go on from a late beginning. -/
theorem foldR_same {FL : List Int → Option Nat} {most : Nat} {y : List Int} {j : Nat} (hy : y ≠ []) (hF : FL y = some j) (hpre : ∀ k, 1 ≤ k → k < y.length → FL (y.take k) = none) (hle : y.length ≤ most) :
    ∀ (ts : List (List Int)) (out : List CutD), lastC out = y → out ≠ [] → foldR FL most out (ts.map (y ++ ·)) = some out
  | [], out, _, _ => rfl
  | t :: ts, out, h1, h2 => by
    have hyl : 1 ≤ y.length := by cases y with
      | nil => exact absurd rfl hy
      | cons _ _ => simp
    have hcut : cutAt FL (y ++ t) most 0 = (y.length, (j : Int)) := by
      rw [show most = (y.length - 1) + ((most - y.length) + 1) by omega, cutAt_skip _ _ _ (fun k a b => by
        rw [List.take_append_of_le_length (by omega)]; exact hpre k (by omega) (by omega)), cutAt]
      rw [show 0 + (y.length - 1) + 1 = y.length by omega, List.take_left, hF]
    simp only [List.map_cons, foldR]
    unfold stepR
    rw [hcut, if_neg (by show ¬ ((j : Int) < 0); omega), h1, if_neg (by
      rintro (h | h)
      · exact h2 h
      · exact h ⟨List.take_left, by simp⟩), Option.bind_some]
    exact foldR_same hy hF hpre hle ts out h1 h2
theorem foldR_ext {N : Nat} (hN : 1 ≤ N) {FL : List Int → Option Nat} {most : Nat} : ∀ k p out, 1 ≤ k → p.length + k = most → (∀ m, 1 ≤ m → m ≤ p.length → FL (p.take m) = none) → (out = [] ∨ ∀ t, ¬ ((p ++ t).take (lastC out).length = lastC out ∧ (lastC out).length ≤ (p ++ t).length)) →
    foldR FL most out (ext N k p) = if ∃ c ∈ cutL N FL k p, c.2 < 0 then none else some (out ++ cutL N FL k p) := by
  intro k
  induction k with
  | zero => intro p out h; omega
  | succ k ih =>
    intro p out _ hlen hnone hout
    have main : ∀ (js : List Nat) (out : List CutD), js.Nodup → (out = [] ∨ ∀ j ∈ js, ∀ t, ¬ ((p ++ [(j : Int)] ++ t).take (lastC out).length = lastC out ∧ (lastC out).length ≤ (p ++ [(j : Int)] ++ t).length)) →
        foldR FL most out (js.flatMap fun j : Nat => ext N k (p ++ [(j : Int)])) = if ∃ c ∈ js.flatMap (fun j : Nat => cut1 FL k (cutL N FL k (p ++ [(j : Int)])) (p ++ [(j : Int)])), c.2 < 0 then none else some (out ++ js.flatMap fun j : Nat => cut1 FL k (cutL N FL k (p ++ [(j : Int)])) (p ++ [(j : Int)])) := by
      intro js
      induction js with
      | nil => intro out _ _; simp [foldR]
      | cons j js ihj =>
        intro out hnd hout
        rw [List.flatMap_cons, foldR_append]
        have hndj := List.nodup_cons.1 hnd
        -- the cuts of this job
        have hone : foldR FL most out (ext N k (p ++ [(j : Int)])) = if ∃ c ∈ cut1 FL k (cutL N FL k (p ++ [(j : Int)])) (p ++ [(j : Int)]), c.2 < 0 then none else some (out ++ cut1 FL k (cutL N FL k (p ++ [(j : Int)])) (p ++ [(j : Int)])) := by
          have hpre : ∀ m, 1 ≤ m → m < (p ++ [(j : Int)]).length → FL ((p ++ [(j : Int)]).take m) = none := fun m m1 m2 => by
            rw [List.length_append, List.length_cons, List.length_nil] at m2
            rw [List.take_append_of_le_length (by omega)]
            exact hnone m m1 (by omega)
          have hout1 : out = [] ∨ ∀ t, ¬ ((p ++ [(j : Int)] ++ t).take (lastC out).length = lastC out ∧ (lastC out).length ≤ (p ++ [(j : Int)] ++ t).length) := by
            rcases hout with h | h
            · exact Or.inl h
            · exact Or.inr (h j (by simp))
          unfold cut1
          cases hF : FL (p ++ [(j : Int)]) with
          | some q =>
            dsimp only
            rw [if_neg (by rintro ⟨c, hc, h⟩; rw [List.mem_singleton] at hc; subst hc; dsimp only at h; omega)]
            -- the first sequence brings the cut, the others bring none
            have hne : seqs N k ≠ [] := by
              intro h
              have := congrArg List.length h
              rw [seqs_len] at this
              have := Nat.pow_pos (n := k) hN
              simp at *
              omega
            rw [ext_eq]
            cases hs : seqs N k with
            | nil => exact absurd hs hne
            | cons t ts =>
              have hyl : (p ++ [(j : Int)]).length = p.length + 1 := by simp
              have hcut : cutAt FL (p ++ [(j : Int)] ++ t) most 0 = ((p ++ [(j : Int)]).length, (q : Int)) := by
                rw [show most = p.length + ((most - (p.length + 1)) + 1) by omega, cutAt_skip _ _ _ (fun k a b => by
                  rw [List.take_append_of_le_length (by omega)]; exact hpre k (by omega) (by omega)), cutAt]
                rw [show 0 + p.length + 1 = (p ++ [(j : Int)]).length by omega, List.take_left, hF]
              simp only [List.map_cons, foldR]
              have hst : stepR FL most out (p ++ [(j : Int)] ++ t) = some (out ++ [(p ++ [(j : Int)], (q : Int))]) := by
                unfold stepR
                rw [hcut, if_neg (by show ¬ ((q : Int) < 0); omega), if_pos (by
                  rcases hout1 with h | h
                  · exact Or.inl h
                  · exact Or.inr (h t))]
                show some (out ++ [((p ++ [(j : Int)] ++ t).take (p ++ [(j : Int)]).length, (q : Int))]) = _
                rw [List.take_left]
              rw [hst, Option.bind_some]
              exact foldR_same (by simp) hF hpre (by omega) ts _ (lastC_snoc _ _) (by simp)
          | none =>
            dsimp only
            by_cases hk : k = 0
            · subst hk
              rw [if_pos rfl, if_pos ⟨_, List.mem_singleton.2 rfl, by show (-1 : Int) < 0; decide⟩]
              show (stepR FL most out (p ++ [(j : Int)])).bind _ = none
              have hcut : cutAt FL (p ++ [(j : Int)]) most 0 = (most, -1) := by
                have := cutAt_skip (FL := FL) (q := p ++ [(j : Int)]) most 0 0 (fun k a b => by
                  by_cases hkl : k = p.length + 1
                  · subst hkl
                    rw [List.take_of_length_le (by simp)]; exact hF
                  · exact hpre k (by omega) (by simp; omega))
                rw [Nat.add_zero, Nat.zero_add] at this
                exact this
              unfold stepR
              rw [hcut, if_pos (by show (-1 : Int) < 0; decide)]; rfl
            · rw [if_neg hk]
              refine ih (p ++ [(j : Int)]) out (by omega) (by simp; omega) (fun m m1 m2 => ?_) hout1
              by_cases hml : m = p.length + 1
              · subst hml
                rw [List.take_of_length_le (by simp)]; exact hF
              · exact hpre m m1 (by simp at m2 ⊢; omega)
        rw [hone, List.flatMap_cons]
        by_cases hex : ∃ c ∈ cut1 FL k (cutL N FL k (p ++ [(j : Int)])) (p ++ [(j : Int)]), c.2 < 0
        · rw [if_pos hex, if_pos (by obtain ⟨c, h1, h2⟩ := hex; exact ⟨c, by simp [h1], h2⟩)]; rfl
        · rw [if_neg hex, Option.bind_some, ihj _ hndj.2 (Or.inr (fun j' hj' t => ?_))]
          · have e : (∃ c ∈ cut1 FL k (cutL N FL k (p ++ [(j : Int)])) (p ++ [(j : Int)]) ++ js.flatMap (fun j : Nat => cut1 FL k (cutL N FL k (p ++ [(j : Int)])) (p ++ [(j : Int)])), c.2 < 0) ↔ (∃ c ∈ js.flatMap (fun j : Nat => cut1 FL k (cutL N FL k (p ++ [(j : Int)])) (p ++ [(j : Int)])), c.2 < 0) := by
              constructor
              · rintro ⟨c, hc, h⟩
                rcases List.mem_append.1 hc with hc | hc
                · exact absurd ⟨c, hc, h⟩ hex
                · exact ⟨c, hc, h⟩
              · rintro ⟨c, hc, h⟩
                exact ⟨c, by simp only [List.mem_append]; exact Or.inr hc, h⟩
            simp only [e, List.append_assoc]
          · -- the last cut begins with this job
            have hcne : cut1 FL k (cutL N FL k (p ++ [(j : Int)])) (p ++ [(j : Int)]) ≠ [] := by
              unfold cut1
              cases FL (p ++ [(j : Int)]) with
              | some q => simp
              | none =>
                dsimp only
                split
                · simp
                · rename_i hk
                  exact cutL_ne hN k _ (by omega)
            have hcm : ∀ c ∈ cut1 FL k (cutL N FL k (p ++ [(j : Int)])) (p ++ [(j : Int)]), ∃ u, c.1 = p ++ [(j : Int)] ++ u := by
              intro c hc
              unfold cut1 at hc
              cases hF : FL (p ++ [(j : Int)]) with
              | some q =>
                rw [hF] at hc
                dsimp only at hc
                rw [List.mem_singleton] at hc
                exact ⟨[], by rw [hc]; simp⟩
              | none =>
                rw [hF] at hc
                dsimp only at hc
                split at hc
                · rw [List.mem_singleton] at hc
                  exact ⟨[], by rw [hc]; simp⟩
                · obtain ⟨u, h1, _⟩ := cutL_mem _ _ _ hc
                  exact ⟨u, h1⟩
            have hl := List.dropLast_concat_getLast hcne
            obtain ⟨u, hu⟩ := hcm _ (List.getLast_mem hcne)
            have hlast : lastC (out ++ cut1 FL k (cutL N FL k (p ++ [(j : Int)])) (p ++ [(j : Int)])) = p ++ [(j : Int)] ++ u := by
              rw [← hl, ← List.append_assoc, lastC_snoc, hu]
            rw [hlast]
            rintro ⟨h1, h2⟩
            have h3 : (p ++ [(j' : Int)] ++ t).getD p.length 0 = (j' : Int) := by simp [List.getD_eq_getElem?_getD]
            have h4 : (p ++ [(j : Int)] ++ u).getD p.length 0 = (j : Int) := by simp [List.getD_eq_getElem?_getD]
            rw [← h1] at h4
            have h5 : ((p ++ [(j' : Int)] ++ t).take (p ++ [(j : Int)] ++ u).length).getD p.length 0 = (p ++ [(j' : Int)] ++ t).getD p.length 0 := by
              rw [List.getD_eq_getElem?_getD, List.getElem?_take, if_pos (by simp), ← List.getD_eq_getElem?_getD]
            rw [h5, h3] at h4
            have : j' = j := by omega
            exact hndj.1 (this ▸ hj')
    have := main (List.range N) out List.nodup_range (by
      rcases hout with h | h
      · exact Or.inl h
      · exact Or.inr (fun j _ t => by
          have := h ([(j : Int)] ++ t)
          rwa [← List.append_assoc] at this))
    rw [ext, cutL]
    exact this
theorem foldR_all {N : Nat} (hN : 1 ≤ N) {FL : List Int → Option Nat} {most : Nat} (h1 : 1 ≤ most) : foldR FL most [] (seqs N most) = if ∃ c ∈ cutL N FL most [], c.2 < 0 then none else some (cutL N FL most []) := by
  have := foldR_ext hN (FL := FL) (most := most) most [] [] h1 (by simp) (fun m m1 m2 => by simp at m2; omega) (Or.inl rfl)
  rw [ext_eq] at this
  simpa using this
end Go.Plan
