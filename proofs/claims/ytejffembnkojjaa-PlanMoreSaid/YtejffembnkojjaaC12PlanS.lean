/- The plain side of chapter 6, part 5: a job that is late behind a beginning is late in each round. -/
import Derived.Test.YtejffembnkojjaaC12PlanQ
namespace Go.Plan
set_option linter.unusedVariables false
set_option linter.unusedSimpArgs false
theorem startD_snoc (r : RadarD) (l : List JobD) (s : List Int) (x j : Int) : startD r l (s ++ [x]) j = startD r l s x + tk r l x + mv r l x j := by
  unfold startD
  rw [if_neg (by simp), doneD_snoc]
  have : (s ++ [x]).getD ((s ++ [x]).length - 1) 0 = x := by
    simp only [List.length_append, List.length_cons, List.length_nil, Nat.add_sub_cancel]
    exact getD_snoc_eq
  rw [this]
  unfold startD
  rfl
theorem atD_append (r : RadarD) (l : List JobD) (s : List Int) : ∀ q, (atD r l (s ++ q)).take s.length = atD r l s := by
  have hlen := atD_len r l s
  refine snoc_ind (by simp [← hlen]) ?_
  intro q x ih
  rw [← List.append_assoc, atD_snoc, List.take_append_of_le_length (by rw [atD_len]; simp), ih]
theorem atD_take (r : RadarD) (l : List JobD) (s : List Int) (k : Nat) : atD r l (s.take k) = (atD r l s).take k := by
  by_cases h : k ≤ s.length
  · have := atD_append r l (s.take k) (s.drop k)
    rw [List.take_append_drop] at this
    rw [← this]
    congr 1
    simp; omega
  · rw [List.take_of_length_le (by omega), List.take_of_length_le (by rw [atD_len]; omega)]
/-- Each beginning is the time when its job could begin behind what lies ahead of it. -/
theorem atD_start (r : RadarD) (l : List JobD) (s : List Int) {k : Nat} (h : k < s.length) : (atD r l s).getD k 0 = startD r l (s.take k) (s.getD k 0) := by
  have h1 := atD_take r l s (k + 1)
  rw [← take_snoc (d := 0) h, atD_snoc, ← take_snoc (d := 0) (by rw [atD_len]; exact h), ← atD_take] at h1
  have := List.append_cancel_left h1
  simpa using this.symm
/-! ### Occurrences -/
theorem occ_idx {j : Int} : ∀ (s a : List Int) (x : Int), x ∈ occ j s a → ∃ k, k < s.length ∧ k < a.length ∧ s.getD k 0 = j ∧ a.getD k 0 = x
  | [], _, _, h => by simp [occ] at h
  | _ :: _, [], _, h => by simp [occ] at h
  | y :: s, b :: a, x, h => by
    simp only [occ] at h
    have ih := occ_idx (j := j) s a x
    split at h
    · rename_i hy
      rcases List.mem_cons.1 h with rfl | h
      · exact ⟨0, by simp, by simp, by simpa using hy, by simp⟩
      · obtain ⟨k, h1, h2, h3, h4⟩ := ih h
        exact ⟨k + 1, by simp; omega, by simp; omega, by simpa using h3, by simpa using h4⟩
    · obtain ⟨k, h1, h2, h3, h4⟩ := ih h
      exact ⟨k + 1, by simp; omega, by simp; omega, by simpa using h3, by simpa using h4⟩
theorem lastO_mem' : ∀ (a : Int) (l : List Int), lastO a l ∈ a :: l
  | a, [] => by simp [lastO]
  | a, x :: l => List.mem_cons_of_mem _ (lastO_mem' x l)
theorem dmax_bd' {B : Int} : ∀ (m a : Int) (l : List Int), m ≤ B → (0 ≤ a ∧ a ≤ B) → (∀ x ∈ l, 0 ≤ x ∧ x ≤ B) → dmax m a l ≤ B
  | m, _, [], h, _, _ => h
  | m, a, x :: l, h, ha, hl => by
    have hx := hl x (by simp)
    have := mx_spec m (x - a)
    exact dmax_bd' _ x l (by omega) hx (fun y hy => hl y (by simp [hy]))
theorem occ_sub' {j : Int} (s l : List Int) (x : Int) (h : x ∈ occ j s l) : x ∈ l := by
  obtain ⟨k, _, h2, _, h4⟩ := occ_idx s l x h
  rw [← h4, List.getD_eq_getElem?_getD, List.getElem?_eq_getElem h2]; exact List.getElem_mem h2
theorem dmax_mid (m a y : Int) (l1 l2 : List Int) : y - lastO a l1 ≤ dmax m a (l1 ++ y :: l2) := by
  rw [dmax_append]
  exact Int.le_trans (mx_spec _ _).2.2 (dmax_ge _ _ _)
theorem gap_ge_wrap (al x : Int) (o : List Int) : x + al - lastO x o ≤ gapJ al (x :: o) := by
  have := dmax_mid 0 (lastO x o - al) x [] o
  simp only [lastO, List.nil_append] at this
  show _ ≤ dmax 0 (lastO x o - al) (x :: o)
  omega
end Go.Plan
