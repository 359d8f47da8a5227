/- The plain side of chapter 6, part 5: a job that is late behind a beginning is late in each round. -/
import Derived.Test.YtejffembnkojjaaC9PlanQ
namespace Go.Plan
set_option linter.unusedVariables false
set_option linter.unusedSimpArgs false
theorem moveJ_tri {r : RadarD} {a b c : JobD} (hm : 0 ≤ r.move) : moveJ r a c ≤ moveJ r a b + moveJ r b c := by
  unfold moveJ
  rw [← Int.mul_add]
  refine Int.mul_le_mul_of_nonneg_left ?_ hm
  have h1 := mx_spec (a.tilt - b.tilt) (b.tilt - a.tilt)
  have h2 := mx_spec (b.tilt - c.tilt) (c.tilt - b.tilt)
  have h3 := mx_spec (a.tilt - c.tilt) (c.tilt - a.tilt)
  omega
theorem mv_tri {r : RadarD} {l : List JobD} (hr : radarOk r = true) (a b c : Int) : mv r l a c ≤ mv r l a b + mv r l b c := moveJ_tri (radarOk_bd hr).2.2.1.1
theorem startD_snoc (r : RadarD) (l : List JobD) (s : List Int) (x j : Int) : startD r l (s ++ [x]) j = startD r l s x + tk r l x + mv r l x j := by
  unfold startD
  rw [if_neg (by simp), doneD_snoc]
  have : (s ++ [x]).getD ((s ++ [x]).length - 1) 0 = x := by
    simp only [List.length_append, List.length_cons, List.length_nil, Nat.add_sub_cancel]
    exact getD_snoc_eq
  rw [this]
  unfold startD
  rfl
/-- The way from an element to a job behind the sequence. -/
theorem way {r : RadarD} {l : List JobD} (hr : radarOk r = true) (hl : okJ l) : ∀ s, okS l.length s → ∀ j : Int, 0 ≤ j ∧ j < l.length → ∀ i, i < s.length → (atD r l s).getD i 0 + tk r l (s.getD i 0) + mv r l (s.getD i 0) j ≤ startD r l s j := by
  refine snoc_ind (fun _ j _ i h => by simp at h) ?_
  intro s x ih hs j hj i hi
  obtain ⟨h1, hx⟩ := okS_init hs
  rw [startD_snoc, atD_snoc]
  have hlen := atD_len r l s
  have htk := tk_pos hr hl hx
  by_cases hc : i < s.length
  · rw [getD_snoc_lt (by omega), getD_snoc_lt hc]
    have := ih h1 x hx i hc
    have := mv_tri (l := l) hr (s.getD i 0) x j
    omega
  · have he : i = s.length := by simp at hi; omega
    subst he
    rw [getD_snoc_eq, ← hlen, getD_snoc_eq]
    omega
theorem startD_ext {r : RadarD} {l : List JobD} (hr : radarOk r = true) (hl : okJ l) {s : List Int} (h1 : 1 ≤ s.length) : ∀ q, okS l.length (s ++ q) → ∀ j : Int, 0 ≤ j ∧ j < l.length → startD r l s j ≤ startD r l (s ++ q) j := by
  refine snoc_ind (fun _ j _ => by simp) ?_
  intro q x ih hs j hj
  rw [← List.append_assoc] at hs ⊢
  obtain ⟨h2, hx⟩ := okS_init hs
  rw [startD_snoc]
  have h3 := ih h2 j hj
  have htk := tk_pos hr hl hx
  have hne : (s ++ q).length ≠ 0 := by simp; intro e; subst e; simp at h1
  have e1 : startD r l (s ++ q) j = doneD r l (s ++ q) + mv r l ((s ++ q).getD ((s ++ q).length - 1) 0) j := by unfold startD; rw [if_neg hne]
  have e2 : startD r l (s ++ q) x = doneD r l (s ++ q) + mv r l ((s ++ q).getD ((s ++ q).length - 1) 0) x := by unfold startD; rw [if_neg hne]
  have := mv_tri (l := l) hr ((s ++ q).getD ((s ++ q).length - 1) 0) x j
  omega
theorem atD_append (r : RadarD) (l : List JobD) (s : List Int) : ∀ q, (atD r l (s ++ q)).take s.length = atD r l s := by
  have hlen := atD_len r l s
  refine snoc_ind (by simp [← hlen]) ?_
  intro q x ih
  rw [← List.append_assoc, atD_snoc, List.take_append_of_le_length (by rw [atD_len]; simp), ih]
theorem atD_take (r : RadarD) (l : List JobD) (s : List Int) (k : Nat) : atD r l (s.take k) = (atD r l s).take k := by
  by_cases h : k ≤ s.length
  · have := atD_append r l (s.take k) (s.drop k)
    rw [List.take_append_drop] at this
    rw [← this]
    congr 1
    simp; omega
  · rw [List.take_of_length_le (by omega), List.take_of_length_le (by rw [atD_len]; omega)]
/-- Each beginning is the time when its job could begin behind what lies ahead of it. -/
theorem atD_start (r : RadarD) (l : List JobD) (s : List Int) {k : Nat} (h : k < s.length) : (atD r l s).getD k 0 = startD r l (s.take k) (s.getD k 0) := by
  have h1 := atD_take r l s (k + 1)
  rw [← take_snoc (d := 0) h, atD_snoc, ← take_snoc (d := 0) (by rw [atD_len]; exact h), ← atD_take] at h1
  have := List.append_cancel_left h1
  simpa using this.symm
/-! ### Occurrences -/
theorem occ_idx {j : Int} : ∀ (s a : List Int) (x : Int), x ∈ occ j s a → ∃ k, k < s.length ∧ k < a.length ∧ s.getD k 0 = j ∧ a.getD k 0 = x
  | [], _, _, h => by simp [occ] at h
  | _ :: _, [], _, h => by simp [occ] at h
  | y :: s, b :: a, x, h => by
    simp only [occ] at h
    have ih := occ_idx (j := j) s a x
    split at h
    · rename_i hy
      rcases List.mem_cons.1 h with rfl | h
      · exact ⟨0, by simp, by simp, by simpa using hy, by simp⟩
      · obtain ⟨k, h1, h2, h3, h4⟩ := ih h
        exact ⟨k + 1, by simp; omega, by simp; omega, by simpa using h3, by simpa using h4⟩
    · obtain ⟨k, h1, h2, h3, h4⟩ := ih h
      exact ⟨k + 1, by simp; omega, by simp; omega, by simpa using h3, by simpa using h4⟩
theorem lastO_mem' : ∀ (a : Int) (l : List Int), lastO a l ∈ a :: l
  | a, [] => by simp [lastO]
  | a, x :: l => List.mem_cons_of_mem _ (lastO_mem' x l)
theorem dmax_mid (m a y : Int) (l1 l2 : List Int) : y - lastO a l1 ≤ dmax m a (l1 ++ y :: l2) := by
  rw [dmax_append]
  exact Int.le_trans (mx_spec _ _).2.2 (dmax_ge _ _ _)
/-- Whether a job is late behind a sequence. -/
def lateD (r : RadarD) (l : List JobD) (s : List Int) (j : Int) : Bool :=
  match occ j s (atD r l s) with
  | [] => decide (startD r l s j + tk r l j + mv r l j (s.getD 0 0) > (l.getD j.toNat default).every)
  | x :: o => decide (startD r l s j - lastO x o > (l.getD j.toNat default).every)
theorem gap_ge_wrap (al x : Int) (o : List Int) : x + al - lastO x o ≤ gapJ al (x :: o) := by
  have := dmax_mid 0 (lastO x o - al) x [] o
  simp only [lastO, List.nil_append] at this
  show _ ≤ dmax 0 (lastO x o - al) (x :: o)
  omega
theorem late_gap {r : RadarD} {l : List JobD} (hr : radarOk r = true) (hl : okJ l) {p q : List Int} (hs : okS l.length (p ++ q)) (h1 : 1 ≤ p.length) {j : Int} (hj : 0 ≤ j ∧ j < l.length) (hlate : lateD r l p j = true) :
    gapD r l (p ++ q) j = 0 ∨ (l.getD j.toNat default).every < gapD r l (p ++ q) j := by
  have hlen := atD_len r l (p ++ q)
  have hp : okS l.length p := okS_mem.2 fun x hx => okS_mem.1 hs x (by simp [hx])
  have h0 : (p ++ q).getD 0 0 = p.getD 0 0 := by simp [List.getD_eq_getElem?_getD, List.getElem?_append_left (show 0 < p.length by omega)]
  have hx0 := hp 0 (by omega)
  have hat : atD r l (p ++ q) = atD r l p ++ (atD r l (p ++ q)).drop p.length := by
    rw [← atD_append r l p q, List.take_append_drop]
  have hocc : occ j (p ++ q) (atD r l (p ++ q)) = occ j p (atD r l p) ++ occ j q ((atD r l (p ++ q)).drop p.length) := by
    rw [hat, occ_append j p (atD r l p) q _ (atD_len r l p).symm, ← hat]
  have hall : allD r l (p ++ q) = startD r l (p ++ q) (p.getD 0 0) := by unfold allD; rw [h0]
  -- a beginning behind p is not earlier than what p allows
  have hbeh : ∀ y ∈ occ j q ((atD r l (p ++ q)).drop p.length), startD r l p j ≤ y := by
    intro y hy
    obtain ⟨k, hk1, hk2, hk3, hk4⟩ := occ_idx _ _ _ hy
    have hkl : p.length + k < (p ++ q).length := by simp; omega
    have e1 : (atD r l (p ++ q)).getD (p.length + k) 0 = y := by
      rw [← hk4]; simp [List.getD_eq_getElem?_getD, List.getElem?_drop]
    have e2 : (p ++ q).getD (p.length + k) 0 = j := by
      rw [← hk3, List.getD_eq_getElem?_getD, List.getD_eq_getElem?_getD, List.getElem?_append_right (by omega), Nat.add_sub_cancel_left]
    rw [← e1, atD_start r l _ hkl, e2, List.take_length_add_append]
    refine startD_ext hr hl h1 _ ?_ j hj
    exact okS_mem.2 fun x hx => okS_mem.1 hs x (by
      rcases List.mem_append.1 hx with hx | hx
      · simp [hx]
      · simp [List.mem_of_mem_take hx])
  unfold lateD at hlate
  unfold gapD
  rw [hocc]
  cases ho : occ j p (atD r l p) with
  | nil =>
    rw [ho] at hlate
    simp only [decide_eq_true_eq] at hlate
    cases hq : occ j q ((atD r l (p ++ q)).drop p.length) with
    | nil => exact Or.inl rfl
    | cons y ys =>
      right
      have hy := hbeh y (by rw [hq]; simp)
      have hw := gap_ge_wrap (allD r l (p ++ q)) y ys
      have hlast : lastO y ys ∈ occ j (p ++ q) (atD r l (p ++ q)) := by rw [hocc, ho, hq]; exact lastO_mem' y ys
      obtain ⟨k, hk1, hk2, hk3, hk4⟩ := occ_idx _ _ _ hlast
      have := way hr hl (p ++ q) hs (p.getD 0 0) hx0 k hk1
      rw [hk3, hk4] at this
      simp only [List.nil_append]
      omega
  | cons x xs =>
    rw [ho] at hlate
    simp only [decide_eq_true_eq] at hlate
    right
    cases hq : occ j q ((atD r l (p ++ q)).drop p.length) with
    | nil =>
      have hw := gap_ge_wrap (allD r l (p ++ q)) x xs
      rw [List.append_nil]
      have hx : x ∈ occ j (p ++ q) (atD r l (p ++ q)) := by rw [hocc, ho]; simp
      obtain ⟨k, hk1, hk2, hk3, hk4⟩ := occ_idx _ _ _ hx
      have hext := startD_ext hr hl h1 q hs j hj
      have hne : (p ++ q).length ≠ 0 := by omega
      have e1 : startD r l (p ++ q) j = doneD r l (p ++ q) + mv r l ((p ++ q).getD ((p ++ q).length - 1) 0) j := by unfold startD; rw [if_neg hne]
      have e2 : startD r l (p ++ q) (p.getD 0 0) = doneD r l (p ++ q) + mv r l ((p ++ q).getD ((p ++ q).length - 1) 0) (p.getD 0 0) := by unfold startD; rw [if_neg hne]
      have htri := mv_tri (l := l) hr ((p ++ q).getD ((p ++ q).length - 1) 0) (p.getD 0 0) j
      by_cases hk0 : k = 0
      · subst hk0
        rw [h0] at hk3
        rw [← hk3] at hext e1 hlate ⊢
        have hat0 := atD_bd hr hl (p ++ q) hs 0
        omega
      · have hw2 := way hr hl ((p ++ q).take k) (okS_take hs) j hj 0 (by simp; omega)
        have e3 := atD_start r l (p ++ q) hk1
        rw [hk3, hk4] at e3
        have e4 : (atD r l ((p ++ q).take k)).getD 0 0 = 0 := atD_zero _ (by simp; omega)
        have e5 : ((p ++ q).take k).getD 0 0 = p.getD 0 0 := by
          rw [← h0]; simp [List.getD_eq_getElem?_getD, List.getElem?_take, show 0 < k by omega]
        rw [e4, e5] at hw2
        have htk := tk_pos hr hl hx0
        omega
    | cons y ys =>
      have hy := hbeh y (by rw [hq]; simp)
      have hm : y - lastO x xs ≤ gapJ (allD r l (p ++ q)) (x :: xs ++ y :: ys) := by
        show _ ≤ dmax 0 _ ((x :: xs) ++ y :: ys)
        exact dmax_mid 0 _ y (x :: xs) ys
      omega
end Go.Plan
