/- The plain side of chapter 6: radars, jobs, checks, times. No program in sight. -/
namespace Go.Plan
set_option linter.unusedVariables false
set_option linter.unusedSimpArgs false
structure TrainD where
  lam : Int
  kind : Int
  first : Int
  second : Int
  count : Int
structure JobD where
  tilt : Int
  train : TrainD
  width : Int
  every : Int
structure RadarD where
  rays : Int
  turn : Int
  move : Int
  duty : Int
instance : Inhabited JobD := ⟨⟨0, ⟨0, 0, 0, 0, 0⟩, 0, 0⟩⟩
def inB (n lo hi : Int) : Bool := decide (lo ≤ n) && decide (n ≤ hi)
theorem inB_iff {n lo hi : Int} : inB n lo hi = true ↔ lo ≤ n ∧ n ≤ hi := by simp [inB]
/-- A train's own error. -/
def trainOk (t : TrainD) : Bool :=
  inB t.lam 10000 1000000 && inB t.first 200 5000 &&
  (if t.kind = 1 then t.second == 0 && inB t.count 2 64
   else if t.kind = 2 then (t.count.tmod 2) == 0 && inB t.second 200 5000 && decide (t.first < t.second) && inB t.count 4 64
   else inB t.second 200 5000 && decide (t.first < t.second) && inB t.count 3 64)
def kOk (k : Int) : Bool := k == 1 || k == 2 || k == 3
def trainErr (t : TrainD) : Int := if kOk t.kind then (if trainOk t then 0 else 3) else 2
def jobErr (j : JobD) : Int := if inB j.tilt 0 256 && inB j.width 1 1000 && inB j.every 1 100000000 then trainErr j.train else 3
def firstErr : List JobD → Int
  | [] => 0
  | j :: l => if jobErr j = 0 then firstErr l else jobErr j
def radarOk (r : RadarD) : Bool := inB r.rays 1 360 && inB r.turn 0 600000 && inB r.move 0 10000 && inB r.duty 1 1000
def checkE (r : RadarD) (l : List JobD) : Int := if radarOk r then (if inB l.length 1 6 then firstErr l else 9) else 3
def mx (a b : Int) : Int := if b > a then b else a
def upD (a b : Int) : Int := (a + b - 1) / b
def pulses (t : TrainD) : Int :=
  if t.kind = 1 then t.count * t.first else if t.kind = 2 then t.count / 2 * (t.first + t.second) else (t.count + 1) / 2 * t.first + t.count / 2 * t.second
def timeJ (r : RadarD) (j : JobD) : Int := mx r.turn (upD (r.rays * mx (pulses j.train) (upD (100 * j.train.count * j.width) r.duty)) 1000)
def moveJ (r : RadarD) (a b : JobD) : Int := r.move * mx (a.tilt - b.tilt) (b.tilt - a.tilt)
theorem mul_bd {a b A B : Int} (ha : 0 ≤ a ∧ a ≤ A) (hb : 0 ≤ b ∧ b ≤ B) : 0 ≤ a * b ∧ a * b ≤ A * B :=
  ⟨Int.mul_nonneg ha.1 hb.1, Int.mul_le_mul ha.2 hb.2 hb.1 (Int.le_trans ha.1 ha.2)⟩
theorem mx_spec (a b : Int) : (mx a b = a ∨ mx a b = b) ∧ a ≤ mx a b ∧ b ≤ mx a b := by unfold mx; split <;> omega
theorem firstErr_all {l : List JobD} (h : firstErr l = 0) : ∀ j ∈ l, jobErr j = 0 := by
  induction l with
  | nil => intro j hj; simp at hj
  | cons x l ih =>
    simp only [firstErr] at h
    by_cases hx : jobErr x = 0
    · rw [if_pos hx] at h
      intro j hj
      rcases List.mem_cons.1 hj with rfl | hj
      · exact hx
      · exact ih h j hj
    · rw [if_neg hx] at h; exact absurd h hx
theorem jobErr_ok {j : JobD} (h : jobErr j = 0) : (0 ≤ j.tilt ∧ j.tilt ≤ 256) ∧ (1 ≤ j.width ∧ j.width ≤ 1000) ∧ (1 ≤ j.every ∧ j.every ≤ 100000000) ∧ kOk j.train.kind = true ∧ trainOk j.train = true := by
  unfold jobErr at h
  by_cases hc : (inB j.tilt 0 256 && inB j.width 1 1000 && inB j.every 1 100000000) = true
  · rw [if_pos hc] at h
    simp only [Bool.and_eq_true, inB_iff] at hc
    unfold trainErr at h
    by_cases hk : kOk j.train.kind = true
    · rw [if_pos hk] at h
      by_cases ht : trainOk j.train = true
      · exact ⟨hc.1.1, hc.1.2, hc.2, hk, ht⟩
      · rw [if_neg ht] at h; omega
    · rw [if_neg hk] at h; omega
  · rw [if_neg hc] at h; omega
theorem kOk_iff {k : Int} : kOk k = true ↔ k = 1 ∨ k = 2 ∨ k = 3 := by simp [kOk, or_assoc]
theorem trainOk_bd {t : TrainD} (hk : kOk t.kind = true) (h : trainOk t = true) : (200 ≤ t.first ∧ t.first ≤ 5000) ∧ (2 ≤ t.count ∧ t.count ≤ 64) ∧ (0 ≤ t.second ∧ t.second ≤ 5000) := by
  unfold trainOk at h
  rw [kOk_iff] at hk
  simp only [Bool.and_eq_true, inB_iff] at h
  obtain ⟨⟨h1, h2⟩, h3⟩ := h
  rcases hk with hk | hk | hk
  · rw [if_pos hk] at h3; simp only [Bool.and_eq_true, inB_iff, beq_iff_eq] at h3; omega
  · rw [if_neg (by omega), if_pos hk] at h3; simp only [Bool.and_eq_true, inB_iff, beq_iff_eq, decide_eq_true_eq] at h3; omega
  · rw [if_neg (by omega), if_neg (by omega)] at h3; simp only [Bool.and_eq_true, inB_iff, decide_eq_true_eq] at h3; omega
theorem radarOk_bd {r : RadarD} (h : radarOk r = true) : (1 ≤ r.rays ∧ r.rays ≤ 360) ∧ (0 ≤ r.turn ∧ r.turn ≤ 600000) ∧ (0 ≤ r.move ∧ r.move ≤ 10000) ∧ (1 ≤ r.duty ∧ r.duty ≤ 1000) := by
  unfold radarOk at h
  simp only [Bool.and_eq_true, inB_iff] at h
  exact ⟨h.1.1.1, h.1.1.2, h.1.2, h.2⟩
theorem upD_bd {a b A : Int} (ha : 0 ≤ a ∧ a ≤ A) (hb : 1 ≤ b ∧ b ≤ 1000) : 0 ≤ upD a b ∧ upD a b ≤ A + 999 := by
  unfold upD
  refine ⟨Int.ediv_nonneg (by omega) (by omega), ?_⟩
  have := Int.ediv_le_self b (a := a + b - 1) (by omega)
  omega
theorem pulses_bd {t : TrainD} (hk : kOk t.kind = true) (h : trainOk t = true) : 0 ≤ pulses t ∧ pulses t ≤ 320000 := by
  have hb := trainOk_bd hk h
  unfold pulses
  have m1 := mul_bd (a := t.count) (b := t.first) (A := 64) (B := 5000) (by omega) (by omega)
  have m2 := mul_bd (a := t.count / 2) (b := t.first + t.second) (A := 32) (B := 10000) (by omega) (by omega)
  have m3 := mul_bd (a := (t.count + 1) / 2) (b := t.first) (A := 32) (B := 5000) (by omega) (by omega)
  have m4 := mul_bd (a := t.count / 2) (b := t.second) (A := 32) (B := 5000) (by omega) (by omega)
  split
  · omega
  · split <;> omega
/-- The longest time of a job. -/
theorem timeJ_bd {r : RadarD} {j : JobD} (hr : radarOk r = true) (hj : jobErr j = 0) : 0 ≤ timeJ r j ∧ timeJ r j ≤ 3000000000 := by
  obtain ⟨h1, h2, h3, hk, ht⟩ := jobErr_ok hj
  have hb := trainOk_bd hk ht
  have hrb := radarOk_bd hr
  have hp := pulses_bd hk ht
  have m1 := mul_bd (a := 100 * j.train.count) (b := j.width) (A := 6400) (B := 1000) (by omega) (by omega)
  have u1 := upD_bd (a := 100 * j.train.count * j.width) (A := 6400000) (by omega) hrb.2.2.2
  have x1 := mx_spec (pulses j.train) (upD (100 * j.train.count * j.width) r.duty)
  have m2 := mul_bd (a := r.rays) (b := mx (pulses j.train) (upD (100 * j.train.count * j.width) r.duty)) (A := 360) (B := 6400999) (by omega) (by omega)
  have u2 := upD_bd (a := r.rays * mx (pulses j.train) (upD (100 * j.train.count * j.width) r.duty)) (b := 1000) (A := 2304359640) (by omega) (by omega)
  have x2 := mx_spec r.turn (upD (r.rays * mx (pulses j.train) (upD (100 * j.train.count * j.width) r.duty)) 1000)
  unfold timeJ
  omega
theorem moveJ_bd {r : RadarD} {a b : JobD} (hr : radarOk r = true) (ha : jobErr a = 0) (hb : jobErr b = 0) : 0 ≤ moveJ r a b ∧ moveJ r a b ≤ 2560000 := by
  have h1 := (jobErr_ok ha).1
  have h2 := (jobErr_ok hb).1
  have x := mx_spec (a.tilt - b.tilt) (b.tilt - a.tilt)
  have m := mul_bd (a := r.move) (b := mx (a.tilt - b.tilt) (b.tilt - a.tilt)) (A := 10000) (B := 256) (radarOk_bd hr).2.2.1 (by omega)
  unfold moveJ
  omega
theorem firstErr_drop {l : List JobD} {k : Nat} (h : k < l.length) : firstErr (l.drop k) = if jobErr (l.getD k default) = 0 then firstErr (l.drop (k + 1)) else jobErr (l.getD k default) := by
  rw [List.drop_eq_getElem_cons h, firstErr, List.getD_eq_getElem?_getD, List.getElem?_eq_getElem h]
  rfl
theorem firstErr_done {l : List JobD} {k : Nat} (h : l.length ≤ k) : firstErr (l.drop k) = 0 := by
  rw [List.drop_eq_nil_of_le h]; rfl
end Go.Plan
