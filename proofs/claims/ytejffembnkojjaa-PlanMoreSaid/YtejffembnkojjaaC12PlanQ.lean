/- The plain side of chapter 6, part 4: times are positive, beginnings rise, the doc's states. -/
import Derived.Test.YtejffembnkojjaaC12PlanO
namespace Go.Plan
set_option linter.unusedVariables false
set_option linter.unusedSimpArgs false
theorem mul_ge {a b A B : Int} (ha : A ≤ a) (hb : B ≤ b) (h0 : 0 ≤ A) (h1 : 0 ≤ B) : A * B ≤ a * b := Int.mul_le_mul ha hb h1 (Int.le_trans h0 ha)
theorem pulses_pos {t : TrainD} (hk : kOk t.kind = true) (h : trainOk t = true) : 1 ≤ pulses t := by
  have hb := trainOk_bd hk h
  unfold pulses
  have m1 := mul_ge (a := t.count) (b := t.first) (A := 2) (B := 200) (by omega) (by omega) (by omega) (by omega)
  have m2 := mul_ge (a := t.count / 2) (b := t.first + t.second) (A := 1) (B := 200) (by omega) (by omega) (by omega) (by omega)
  have m3 := mul_ge (a := (t.count + 1) / 2) (b := t.first) (A := 1) (B := 200) (by omega) (by omega) (by omega) (by omega)
  have m4 := mul_ge (a := t.count / 2) (b := t.second) (A := 0) (B := 0) (by omega) (by omega) (by omega) (by omega)
  split
  · omega
  · split <;> omega
theorem upD_pos {a b : Int} (ha : 1 ≤ a) (hb : 1 ≤ b) : 1 ≤ upD a b := by
  unfold upD
  exact Int.le_ediv_of_mul_le (by omega) (by omega)
theorem timeJ_pos {r : RadarD} {j : JobD} (hr : radarOk r = true) (hj : jobErr j = 0) : 1 ≤ timeJ r j := by
  obtain ⟨h1, h2, h3, hk, ht⟩ := jobErr_ok hj
  have hrb := radarOk_bd hr
  have hp := pulses_pos hk ht
  have x1 := mx_spec (pulses j.train) (upD (100 * j.train.count * j.width) r.duty)
  have m2 := mul_ge (a := r.rays) (b := mx (pulses j.train) (upD (100 * j.train.count * j.width) r.duty)) (A := 1) (B := 1) (by omega) (by omega) (by omega) (by omega)
  have x2 := mx_spec r.turn (upD (r.rays * mx (pulses j.train) (upD (100 * j.train.count * j.width) r.duty)) 1000)
  unfold timeJ
  have : 1 ≤ upD (r.rays * mx (pulses j.train) (upD (100 * j.train.count * j.width) r.duty)) 1000 := upD_pos (by omega) (by omega)
  omega
theorem tk_pos {r : RadarD} {l : List JobD} (hr : radarOk r = true) (hl : okJ l) {j : Int} (hj : 0 ≤ j ∧ j < l.length) : 1 ≤ tk r l j := timeJ_pos hr (hl _ (by omega))
theorem startD_ge {r : RadarD} {l : List JobD} (hr : radarOk r = true) (hl : okJ l) {s : List Int} (hs : okS l.length s) {j : Int} (hj : 0 ≤ j ∧ j < l.length) : doneD r l s ≤ startD r l s j := by
  unfold startD
  split
  · rename_i h
    rw [List.length_eq_zero_iff] at h
    subst h; simp
  · have := mv_bd hr hl (hs (s.length - 1) (by omega)) hj
    omega
theorem atD_rise {r : RadarD} {l : List JobD} (hr : radarOk r = true) (hl : okJ l) : ∀ s, okS l.length s → (∀ i, i < s.length → (atD r l s).getD i 0 + 1 ≤ doneD r l s) ∧ (∀ i k, i < k → k < s.length → (atD r l s).getD i 0 < (atD r l s).getD k 0) := by
  refine snoc_ind (fun _ => ⟨fun i h => by simp at h, fun i k _ h => by simp at h⟩) ?_
  intro s j ih hs
  obtain ⟨h1, hj⟩ := okS_init hs
  obtain ⟨ih1, ih2⟩ := ih h1
  have hst := startD_ge hr hl h1 hj
  have htk := tk_pos hr hl hj
  have hlen := atD_len r l s
  have hg : ∀ i, i < s.length + 1 → (atD r l (s ++ [j])).getD i 0 = if i < s.length then (atD r l s).getD i 0 else startD r l s j := by
    intro i hi
    rw [atD_snoc]
    split
    · exact getD_snoc_lt (by omega)
    · have : i = (atD r l s).length := by omega
      subst this; exact getD_snoc_eq
  refine ⟨fun i hi => ?_, fun i k hik hk => ?_⟩
  · simp only [List.length_append, List.length_cons, List.length_nil] at hi
    rw [hg i hi, doneD_snoc]
    split
    · have := ih1 i (by omega); omega
    · omega
  · simp only [List.length_append, List.length_cons, List.length_nil] at hk
    rw [hg i (by omega), hg k hk, if_pos (by omega)]
    split
    · exact ih2 i k hik (by omega)
    · have := ih1 i (by omega); omega
theorem atD_zero {r : RadarD} {l : List JobD} : ∀ s : List Int, 1 ≤ s.length → (atD r l s).getD 0 0 = 0 := by
  refine snoc_ind (fun h => by simp at h) ?_
  intro s j ih _
  rw [atD_snoc]
  by_cases h : s.length = 0
  · have : atD r l s = [] := by rw [List.length_eq_zero_iff.1 h]; rfl
    rw [this]; simp [startD, h]
  · rw [getD_snoc_lt (by have := atD_len r l s; omega)]; exact ih (by omega)
theorem allD_ge {r : RadarD} {l : List JobD} (hr : radarOk r = true) (hl : okJ l) {s : List Int} (hs : okS l.length s) (h1 : 1 ≤ s.length) : doneD r l s ≤ allD r l s ∧ 1 ≤ allD r l s := by
  have h := startD_ge hr hl hs (hs 0 (by omega))
  have h2 := (atD_rise hr hl s hs).1 0 (by omega)
  rw [atD_zero s h1] at h2
  unfold allD
  omega
/-! ### The document's gap -/
def stO : List Int → Int × Int
  | [] => (0, -1)
  | x :: l => (dmax 0 x l, lastO x l)
theorem stO_snoc (o : List Int) (a : Int) : stO (o ++ [a]) = match o with | [] => (0, a) | _ :: _ => (mx (stO o).1 (a - (stO o).2), a) := by
  cases o with
  | nil => rfl
  | cons x l =>
    show (dmax 0 x (l ++ [a]), lastO x (l ++ [a])) = _
    rw [dmax_snoc, lastO_snoc]; rfl
theorem stO_gap (o : List Int) : (stO o).1 = gap2J o := by cases o <;> rfl
/-! ### Where -/
end Go.Plan
