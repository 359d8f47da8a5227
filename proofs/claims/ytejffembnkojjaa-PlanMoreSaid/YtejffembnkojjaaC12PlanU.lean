/- The plain side of chapter 6, part 7: gaps are missing just where jobs are, and are not longer where times are not. -/
import Derived.Test.YtejffembnkojjaaC12PlanS
namespace Go.Plan
set_option linter.unusedVariables false
set_option linter.unusedSimpArgs false
theorem occ_nil_iff {j : Int} : ∀ (s a : List Int), s.length = a.length → (occ j s a = [] ↔ j ∉ s)
  | [], [], _ => by simp [occ]
  | [], _ :: _, h => by simp at h
  | _ :: _, [], h => by simp at h
  | y :: s, b :: a, h => by
    have ih := occ_nil_iff (j := j) s a (by simpa using h)
    simp only [occ]
    split
    · rename_i hy; simp [hy]
    · rename_i hy
      rw [ih]
      simp only [List.mem_cons, not_or]
      exact ⟨fun h => ⟨fun e => hy e.symm, h⟩, fun h => h.2⟩
theorem gap_pos {r : RadarD} {l : List JobD} (hr : radarOk r = true) (hl : okJ l) {s : List Int} (hs : okS l.length s) {j : Int} (hj : j ∈ s) : 1 ≤ gapD r l s j := by
  have hlen := atD_len r l s
  unfold gapD
  cases ho : occ j s (atD r l s) with
  | nil => exact absurd hj ((occ_nil_iff s _ hlen.symm).1 ho)
  | cons x o =>
    have hw := gap_ge_wrap (allD r l s) x o
    have hx : x ∈ occ j s (atD r l s) := by rw [ho]; simp
    have hy : lastO x o ∈ occ j s (atD r l s) := by rw [ho]; exact lastO_mem' x o
    obtain ⟨k, hk1, _, _, hk4⟩ := occ_idx _ _ _ hx
    obtain ⟨i, hi1, _, _, hi4⟩ := occ_idx _ _ _ hy
    have h1 := (atD_bd hr hl s hs k).1
    have h2 := (atD_rise hr hl s hs).1 i hi1
    have h3 := (allD_ge hr hl hs (by omega)).1
    omega
theorem gap_zero_iff {r : RadarD} {l : List JobD} (hr : radarOk r = true) (hl : okJ l) {s : List Int} (hs : okS l.length s) {j : Int} : gapD r l s j = 0 ↔ j ∉ s := by
  constructor
  · intro h hj
    have := gap_pos hr hl hs hj
    omega
  · intro h
    unfold gapD
    rw [(occ_nil_iff s _ (atD_len r l s).symm).2 h]; rfl
/-- The jobs of which a round lacks none. -/
theorem contains_gaps {r : RadarD} {l : List JobD} (hr : radarOk r = true) (hl : okJ l) {s : List Int} (hs : okS l.length s) : (gapsD r l s l.length).contains 0 = decide (∃ j : Nat, j < l.length ∧ (j : Int) ∉ s) := by
  by_cases h : ∃ j : Nat, j < l.length ∧ (j : Int) ∉ s
  · rw [decide_eq_true h]
    obtain ⟨j, hj, hn⟩ := h
    refine contains_get (i := j) (by rw [gapsD_len]; exact hj) ?_
    rw [gapsD_get r l s l.length hs j hj, gap_zero_iff hr hl hs]; exact hn
  · rw [decide_eq_false h]
    refine not_contains fun i hi => ?_
    rw [gapsD_len] at hi
    rw [gapsD_get r l s l.length hs i hi]
    intro h0
    exact h ⟨i, hi, (gap_zero_iff hr hl hs).1 h0⟩
/-! ### Less time -/
end Go.Plan
