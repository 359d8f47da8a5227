/- The plain side of chapter 6, part 4: times are positive, beginnings rise, the doc's states. -/
import Derived.Test.YtejffembnkojjaaC9PlanO
namespace Go.Plan
set_option linter.unusedVariables false
set_option linter.unusedSimpArgs false
theorem mul_ge {a b A B : Int} (ha : A ≤ a) (hb : B ≤ b) (h0 : 0 ≤ A) (h1 : 0 ≤ B) : A * B ≤ a * b := Int.mul_le_mul ha hb h1 (Int.le_trans h0 ha)
theorem pulses_pos {t : TrainD} (hk : kOk t.kind = true) (h : trainOk t = true) : 1 ≤ pulses t := by
  have hb := trainOk_bd hk h
  unfold pulses
  have m1 := mul_ge (a := t.count) (b := t.first) (A := 2) (B := 200) (by omega) (by omega) (by omega) (by omega)
  have m2 := mul_ge (a := t.count / 2) (b := t.first + t.second) (A := 1) (B := 200) (by omega) (by omega) (by omega) (by omega)
  have m3 := mul_ge (a := (t.count + 1) / 2) (b := t.first) (A := 1) (B := 200) (by omega) (by omega) (by omega) (by omega)
  have m4 := mul_ge (a := t.count / 2) (b := t.second) (A := 0) (B := 0) (by omega) (by omega) (by omega) (by omega)
  split
  · omega
  · split <;> omega
theorem upD_pos {a b : Int} (ha : 1 ≤ a) (hb : 1 ≤ b) : 1 ≤ upD a b := by
  unfold upD
  exact Int.le_ediv_of_mul_le (by omega) (by omega)
theorem timeJ_pos {r : RadarD} {j : JobD} (hr : radarOk r = true) (hj : jobErr j = 0) : 1 ≤ timeJ r j := by
  obtain ⟨h1, h2, h3, hk, ht⟩ := jobErr_ok hj
  have hrb := radarOk_bd hr
  have hp := pulses_pos hk ht
  have x1 := mx_spec (pulses j.train) (upD (100 * j.train.count * j.width) r.duty)
  have m2 := mul_ge (a := r.rays) (b := mx (pulses j.train) (upD (100 * j.train.count * j.width) r.duty)) (A := 1) (B := 1) (by omega) (by omega) (by omega) (by omega)
  have x2 := mx_spec r.turn (upD (r.rays * mx (pulses j.train) (upD (100 * j.train.count * j.width) r.duty)) 1000)
  unfold timeJ
  have : 1 ≤ upD (r.rays * mx (pulses j.train) (upD (100 * j.train.count * j.width) r.duty)) 1000 := upD_pos (by omega) (by omega)
  omega
theorem tk_pos {r : RadarD} {l : List JobD} (hr : radarOk r = true) (hl : okJ l) {j : Int} (hj : 0 ≤ j ∧ j < l.length) : 1 ≤ tk r l j := timeJ_pos hr (hl _ (by omega))
theorem atD_zero {r : RadarD} {l : List JobD} : ∀ s : List Int, 1 ≤ s.length → (atD r l s).getD 0 0 = 0 := by
  refine snoc_ind (fun h => by simp at h) ?_
  intro s j ih _
  rw [atD_snoc]
  by_cases h : s.length = 0
  · have : atD r l s = [] := by rw [List.length_eq_zero_iff.1 h]; rfl
    rw [this]; simp [startD, h]
  · rw [getD_snoc_lt (by have := atD_len r l s; omega)]; exact ih (by omega)
/-! ### The document's gap -/
/-! ### Where -/
/-- The last beginning up to a time. -/
structure At (a : List Int) (t : Int) (e : Nat) : Prop where
  lt : e < a.length
  le : a.getD e 0 ≤ t
  gt : ∀ i, e < i → i < a.length → t < a.getD i 0
end Go.Plan
