/- The plain side of chapter 6, part 7: gaps are missing just where jobs are, and are not longer where times are not. -/
import Derived.Test.YtejffembnkojjaaC8PlanS
namespace Go.Plan
set_option linter.unusedVariables false
set_option linter.unusedSimpArgs false
theorem occ_nil_iff {j : Int} : ∀ (s a : List Int), s.length = a.length → (occ j s a = [] ↔ j ∉ s)
  | [], [], _ => by simp [occ]
  | [], _ :: _, h => by simp at h
  | _ :: _, [], h => by simp at h
  | y :: s, b :: a, h => by
    have ih := occ_nil_iff (j := j) s a (by simpa using h)
    simp only [occ]
    split
    · rename_i hy; simp [hy]
    · rename_i hy
      rw [ih]
      simp only [List.mem_cons, not_or]
      exact ⟨fun h => ⟨fun e => hy e.symm, h⟩, fun h => h.2⟩
theorem gap_pos {r : RadarD} {l : List JobD} (hr : radarOk r = true) (hl : okJ l) {s : List Int} (hs : okS l.length s) {j : Int} (hj : j ∈ s) : 1 ≤ gapD r l s j := by
  have hlen := atD_len r l s
  unfold gapD
  cases ho : occ j s (atD r l s) with
  | nil => exact absurd hj ((occ_nil_iff s _ hlen.symm).1 ho)
  | cons x o =>
    have hw := gap_ge_wrap (allD r l s) x o
    have hx : x ∈ occ j s (atD r l s) := by rw [ho]; simp
    have hy : lastO x o ∈ occ j s (atD r l s) := by rw [ho]; exact lastO_mem' x o
    obtain ⟨k, hk1, _, _, hk4⟩ := occ_idx _ _ _ hx
    obtain ⟨i, hi1, _, _, hi4⟩ := occ_idx _ _ _ hy
    have h1 := (atD_bd hr hl s hs k).1
    have h2 := (atD_rise hr hl s hs).1 i hi1
    have h3 := (allD_ge hr hl hs (by omega)).1
    omega
theorem gap_zero_iff {r : RadarD} {l : List JobD} (hr : radarOk r = true) (hl : okJ l) {s : List Int} (hs : okS l.length s) {j : Int} : gapD r l s j = 0 ↔ j ∉ s := by
  constructor
  · intro h hj
    have := gap_pos hr hl hs hj
    omega
  · intro h
    unfold gapD
    rw [(occ_nil_iff s _ (atD_len r l s).symm).2 h]; rfl
/-- The jobs of which a round lacks none. -/
theorem contains_gaps {r : RadarD} {l : List JobD} (hr : radarOk r = true) (hl : okJ l) {s : List Int} (hs : okS l.length s) : (gapsD r l s l.length).contains 0 = decide (∃ j : Nat, j < l.length ∧ (j : Int) ∉ s) := by
  by_cases h : ∃ j : Nat, j < l.length ∧ (j : Int) ∉ s
  · rw [decide_eq_true h]
    obtain ⟨j, hj, hn⟩ := h
    refine contains_get (i := j) (by rw [gapsD_len]; exact hj) ?_
    rw [gapsD_get r l s l.length hs j hj, gap_zero_iff hr hl hs]; exact hn
  · rw [decide_eq_false h]
    refine not_contains fun i hi => ?_
    rw [gapsD_len] at hi
    rw [gapsD_get r l s l.length hs i hi]
    intro h0
    exact h ⟨i, hi, (gap_zero_iff hr hl hs).1 h0⟩
/-! ### Less time -/
theorem dmax_occ_mono (j : Int) : ∀ (s A A' : List Int), A.length = s.length → A'.length = s.length → (∀ i k, i < k → k < s.length → A'.getD k 0 - A'.getD i 0 ≤ A.getD k 0 - A.getD i 0) → ∀ m m' a a', m' ≤ m → (∀ k, k < s.length → A'.getD k 0 - a' ≤ A.getD k 0 - a) → dmax m' a' (occ j s A') ≤ dmax m a (occ j s A)
  | [], _, _, _, _, _, m, m', a, a', hm, _ => by simpa [occ, dmax] using hm
  | _ :: _, [], _, h, _, _, _, _, _, _, _, _ => by simp at h
  | _ :: _, _ :: _, [], _, h, _, _, _, _, _, _, _ => by simp at h
  | x :: s, b :: A, b' :: A', h1, h2, hM, m, m', a, a', hm, hk => by
    have hM' : ∀ i k, i < k → k < s.length → A'.getD k 0 - A'.getD i 0 ≤ A.getD k 0 - A.getD i 0 := fun i k h h' => by
      have := hM (i + 1) (k + 1) (by omega) (by simp; omega)
      simpa using this
    have h0 : b' - a' ≤ b - a := by simpa using hk 0 (by simp)
    simp only [occ]
    split
    · simp only [dmax]
      refine dmax_occ_mono j s A A' (by simpa using h1) (by simpa using h2) hM' _ _ _ _ ?_ (fun k hks => ?_)
      · have := mx_spec m (b - a)
        have := mx_spec m' (b' - a')
        omega
      · have := hM 0 (k + 1) (by omega) (by simp; omega)
        simpa using this
    · refine dmax_occ_mono j s A A' (by simpa using h1) (by simpa using h2) hM' _ _ _ _ hm (fun k hks => ?_)
      have := hk (k + 1) (by simp; omega)
      simpa using this
theorem last_occ_mono (j c c' : Int) : ∀ (s A A' : List Int), A.length = s.length → A'.length = s.length → (∀ k, k < s.length → c' - A'.getD k 0 ≤ c - A.getD k 0) → ∀ a a', c' - a' ≤ c - a → c' - lastO a' (occ j s A') ≤ c - lastO a (occ j s A)
  | [], _, _, _, _, _, a, a', h => by simpa [occ, lastO] using h
  | _ :: _, [], _, h, _, _, _, _, _ => by simp at h
  | _ :: _, _ :: _, [], _, h, _, _, _, _ => by simp at h
  | x :: s, b :: A, b' :: A', h1, h2, hM, a, a', h => by
    have hM' : ∀ k, k < s.length → c' - A'.getD k 0 ≤ c - A.getD k 0 := fun k h' => by
      have := hM (k + 1) (by simp; omega)
      simpa using this
    have h0 : c' - b' ≤ c - b := by simpa using hM 0 (by simp)
    simp only [occ]
    split
    · exact last_occ_mono j c c' s A A' (by simpa using h1) (by simpa using h2) hM' b b' h0
    · exact last_occ_mono j c c' s A A' (by simpa using h1) (by simpa using h2) hM' a a' h
theorem gapJ_dmax (al : Int) {o : List Int} (h : o ≠ []) : gapJ al o = dmax 0 (lastO 0 o - al) o := by
  cases o with
  | nil => exact absurd rfl h
  | cons x o => rfl
theorem atD_step {r : RadarD} {l : List JobD} {s : List Int} {k : Nat} (h : k + 1 < s.length) : (atD r l s).getD (k + 1) 0 = (atD r l s).getD k 0 + tk r l (s.getD k 0) + mv r l (s.getD k 0) (s.getD (k + 1) 0) := by
  rw [atD_start r l s h, atD_start r l s (show k < s.length by omega), ← take_snoc (d := 0) (show k < s.length by omega), startD_snoc]
theorem gap_mono {r r' : RadarD} {l l' : List JobD} {s : List Int} (h1 : 1 ≤ s.length) (ht : ∀ a ∈ s, tk r' l' a ≤ tk r l a) (hv : ∀ a ∈ s, ∀ b ∈ s, mv r' l' a b ≤ mv r l a b) (j : Int) : gapD r' l' s j ≤ gapD r l s j := by
  have hlen := atD_len r l s
  have hlen' := atD_len r' l' s
  have hmem : ∀ k, k < s.length → s.getD k 0 ∈ s := fun k hk => by rw [List.getD_eq_getElem?_getD, List.getElem?_eq_getElem hk]; exact List.getElem_mem hk
  have hM : ∀ d i, i + d < s.length → (atD r' l' s).getD (i + d) 0 - (atD r' l' s).getD i 0 ≤ (atD r l s).getD (i + d) 0 - (atD r l s).getD i 0 := by
    intro d
    induction d with
    | zero => intro i _; simp
    | succ d ih =>
      intro i hi
      have := ih i (by omega)
      have e1 := atD_step (r := r) (l := l) (s := s) (k := i + d) (by omega)
      have e2 := atD_step (r := r') (l := l') (s := s) (k := i + d) (by omega)
      have := ht _ (hmem (i + d) (by omega))
      have := hv _ (hmem (i + d) (by omega)) _ (hmem (i + d + 1) (by omega))
      rw [show i + (d + 1) = i + d + 1 by omega]
      omega
  have hM' : ∀ i k, i < k → k < s.length → (atD r' l' s).getD k 0 - (atD r' l' s).getD i 0 ≤ (atD r l s).getD k 0 - (atD r l s).getD i 0 := fun i k h h' => by
    have := hM (k - i) i (by omega)
    rwa [show i + (k - i) = k by omega] at this
  have hz := atD_zero (r := r) (l := l) s h1
  have hz' := atD_zero (r := r') (l := l') s h1
  have hA : ∀ k, k < s.length → (atD r' l' s).getD k 0 ≤ (atD r l s).getD k 0 := fun k hk => by
    have := hM k 0 (by omega)
    rw [Nat.zero_add] at this
    omega
  have hlast : allD r' l' s - (atD r' l' s).getD (s.length - 1) 0 ≤ allD r l s - (atD r l s).getD (s.length - 1) 0 := by
    have e1 : ∀ (r : RadarD) (l : List JobD), allD r l s = (atD r l s).getD (s.length - 1) 0 + tk r l (s.getD (s.length - 1) 0) + mv r l (s.getD (s.length - 1) 0) (s.getD 0 0) := by
      intro r l
      unfold allD
      have e : s = s.take (s.length - 1) ++ [s.getD (s.length - 1) 0] := by rw [take_snoc (by omega), List.take_of_length_le (by omega)]
      rw [atD_start r l s (show s.length - 1 < s.length by omega)]
      conv => lhs; rw [e]
      rw [startD_snoc, ← e]
    rw [e1 r l, e1 r' l']
    have := ht _ (hmem (s.length - 1) (by omega))
    have := hv _ (hmem (s.length - 1) (by omega)) _ (hmem 0 (by omega))
    omega
  have hall : ∀ k, k < s.length → allD r' l' s - (atD r' l' s).getD k 0 ≤ allD r l s - (atD r l s).getD k 0 := fun k hk => by
    have := hM (s.length - 1 - k) k (by omega)
    rw [show k + (s.length - 1 - k) = s.length - 1 by omega] at this
    omega
  unfold gapD
  by_cases hj : j ∈ s
  · have hne : occ j s (atD r l s) ≠ [] := fun e => absurd hj ((occ_nil_iff s _ hlen.symm).1 e)
    have hne' : occ j s (atD r' l' s) ≠ [] := fun e => absurd hj ((occ_nil_iff s _ hlen'.symm).1 e)
    rw [gapJ_dmax _ hne, gapJ_dmax _ hne']
    have h00 := hall 0 (by omega)
    have hl := last_occ_mono j (allD r l s) (allD r' l' s) s (atD r l s) (atD r' l' s) hlen hlen' hall 0 0 (by omega)
    refine dmax_occ_mono j s (atD r l s) (atD r' l' s) hlen hlen' hM' 0 0 _ _ (Int.le_refl 0) (fun k hk => ?_)
    have := hA k hk
    omega
  · rw [(occ_nil_iff s _ hlen.symm).2 hj, (occ_nil_iff s _ hlen'.symm).2 hj]
    exact Int.le_refl _
end Go.Plan
