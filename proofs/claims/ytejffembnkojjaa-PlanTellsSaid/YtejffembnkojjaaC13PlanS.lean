/- The plain side of chapter 6, part 5: a job that is late behind a beginning is late in each round. -/
import Derived.Test.YtejffembnkojjaaC13PlanQ
namespace Go.Plan
set_option linter.unusedVariables false
set_option linter.unusedSimpArgs false
theorem moveJ_tri {r : RadarD} {a b c : JobD} (hm : 0 ≤ r.move) : moveJ r a c ≤ moveJ r a b + moveJ r b c := by
  unfold moveJ
  rw [← Int.mul_add]
  refine Int.mul_le_mul_of_nonneg_left ?_ hm
  have h1 := mx_spec (a.tilt - b.tilt) (b.tilt - a.tilt)
  have h2 := mx_spec (b.tilt - c.tilt) (c.tilt - b.tilt)
  have h3 := mx_spec (a.tilt - c.tilt) (c.tilt - a.tilt)
  omega
theorem mv_tri {r : RadarD} {l : List JobD} (hr : radarOk r = true) (a b c : Int) : mv r l a c ≤ mv r l a b + mv r l b c := moveJ_tri (radarOk_bd hr).2.2.1.1
theorem startD_snoc (r : RadarD) (l : List JobD) (s : List Int) (x j : Int) : startD r l (s ++ [x]) j = startD r l s x + tk r l x + mv r l x j := by
  unfold startD
  rw [if_neg (by simp), doneD_snoc]
  have : (s ++ [x]).getD ((s ++ [x]).length - 1) 0 = x := by
    simp only [List.length_append, List.length_cons, List.length_nil, Nat.add_sub_cancel]
    exact getD_snoc_eq
  rw [this]
  unfold startD
  rfl
/-- The way from an element to a job behind the sequence. -/
theorem way {r : RadarD} {l : List JobD} (hr : radarOk r = true) (hl : okJ l) : ∀ s, okS l.length s → ∀ j : Int, 0 ≤ j ∧ j < l.length → ∀ i, i < s.length → (atD r l s).getD i 0 + tk r l (s.getD i 0) + mv r l (s.getD i 0) j ≤ startD r l s j := by
  refine snoc_ind (fun _ j _ i h => by simp at h) ?_
  intro s x ih hs j hj i hi
  obtain ⟨h1, hx⟩ := okS_init hs
  rw [startD_snoc, atD_snoc]
  have hlen := atD_len r l s
  have htk := tk_pos hr hl hx
  by_cases hc : i < s.length
  · rw [getD_snoc_lt (by omega), getD_snoc_lt hc]
    have := ih h1 x hx i hc
    have := mv_tri (l := l) hr (s.getD i 0) x j
    omega
  · have he : i = s.length := by simp at hi; omega
    subst he
    rw [getD_snoc_eq, ← hlen, getD_snoc_eq]
    omega
theorem atD_append (r : RadarD) (l : List JobD) (s : List Int) : ∀ q, (atD r l (s ++ q)).take s.length = atD r l s := by
  have hlen := atD_len r l s
  refine snoc_ind (by simp [← hlen]) ?_
  intro q x ih
  rw [← List.append_assoc, atD_snoc, List.take_append_of_le_length (by rw [atD_len]; simp), ih]
theorem atD_take (r : RadarD) (l : List JobD) (s : List Int) (k : Nat) : atD r l (s.take k) = (atD r l s).take k := by
  by_cases h : k ≤ s.length
  · have := atD_append r l (s.take k) (s.drop k)
    rw [List.take_append_drop] at this
    rw [← this]
    congr 1
    simp; omega
  · rw [List.take_of_length_le (by omega), List.take_of_length_le (by rw [atD_len]; omega)]
/-- Each beginning is the time when its job could begin behind what lies ahead of it. -/
theorem atD_start (r : RadarD) (l : List JobD) (s : List Int) {k : Nat} (h : k < s.length) : (atD r l s).getD k 0 = startD r l (s.take k) (s.getD k 0) := by
  have h1 := atD_take r l s (k + 1)
  rw [← take_snoc (d := 0) h, atD_snoc, ← take_snoc (d := 0) (by rw [atD_len]; exact h), ← atD_take] at h1
  have := List.append_cancel_left h1
  simpa using this.symm
/-! ### Occurrences -/
end Go.Plan
