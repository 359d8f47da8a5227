/- The plain side of chapter 6: radars, jobs, checks, times. No program in sight. -/
namespace Go.Plan
set_option linter.unusedVariables false
set_option linter.unusedSimpArgs false
structure TrainD where
  lam : Int
  kind : Int
  first : Int
  second : Int
  count : Int
structure JobD where
  tilt : Int
  train : TrainD
  width : Int
  every : Int
structure RadarD where
  rays : Int
  turn : Int
  move : Int
  duty : Int
instance : Inhabited JobD := ⟨⟨0, ⟨0, 0, 0, 0, 0⟩, 0, 0⟩⟩
def inB (n lo hi : Int) : Bool := decide (lo ≤ n) && decide (n ≤ hi)
theorem inB_iff {n lo hi : Int} : inB n lo hi = true ↔ lo ≤ n ∧ n ≤ hi := by simp [inB]
/-- A train's own error. -/
def trainOk (t : TrainD) : Bool :=
  inB t.lam 10000 1000000 && inB t.first 200 5000 &&
  (if t.kind = 1 then t.second == 0 && inB t.count 2 64
   else if t.kind = 2 then (t.count.tmod 2) == 0 && inB t.second 200 5000 && decide (t.first < t.second) && inB t.count 4 64
   else inB t.second 200 5000 && decide (t.first < t.second) && inB t.count 3 64)
def kOk (k : Int) : Bool := k == 1 || k == 2 || k == 3
def trainErr (t : TrainD) : Int := if kOk t.kind then (if trainOk t then 0 else 3) else 2
def jobErr (j : JobD) : Int := if inB j.tilt 0 256 && inB j.width 1 1000 && inB j.every 1 100000000 then trainErr j.train else 3
def firstErr : List JobD → Int
  | [] => 0
  | j :: l => if jobErr j = 0 then firstErr l else jobErr j
def radarOk (r : RadarD) : Bool := inB r.rays 1 360 && inB r.turn 0 600000 && inB r.move 0 10000 && inB r.duty 1 1000
def checkE (r : RadarD) (l : List JobD) : Int := if radarOk r then (if inB l.length 1 6 then firstErr l else 9) else 3
def mx (a b : Int) : Int := if b > a then b else a
def upD (a b : Int) : Int := (a + b - 1) / b
def pulses (t : TrainD) : Int :=
  if t.kind = 1 then t.count * t.first else if t.kind = 2 then t.count / 2 * (t.first + t.second) else (t.count + 1) / 2 * t.first + t.count / 2 * t.second
def timeJ (r : RadarD) (j : JobD) : Int := mx r.turn (upD (r.rays * mx (pulses j.train) (upD (100 * j.train.count * j.width) r.duty)) 1000)
def moveJ (r : RadarD) (a b : JobD) : Int := r.move * mx (a.tilt - b.tilt) (b.tilt - a.tilt)
theorem mul_bd {a b A B : Int} (ha : 0 ≤ a ∧ a ≤ A) (hb : 0 ≤ b ∧ b ≤ B) : 0 ≤ a * b ∧ a * b ≤ A * B :=
  ⟨Int.mul_nonneg ha.1 hb.1, Int.mul_le_mul ha.2 hb.2 hb.1 (Int.le_trans ha.1 ha.2)⟩
theorem mx_spec (a b : Int) : (mx a b = a ∨ mx a b = b) ∧ a ≤ mx a b ∧ b ≤ mx a b := by unfold mx; split <;> omega
theorem firstErr_all {l : List JobD} (h : firstErr l = 0) : ∀ j ∈ l, jobErr j = 0 := by
  induction l with
  | nil => intro j hj; simp at hj
  | cons x l ih =>
    simp only [firstErr] at h
    by_cases hx : jobErr x = 0
    · rw [if_pos hx] at h
      intro j hj
      rcases List.mem_cons.1 hj with rfl | hj
      · exact hx
      · exact ih h j hj
    · rw [if_neg hx] at h; exact absurd h hx
theorem jobErr_ok {j : JobD} (h : jobErr j = 0) : (0 ≤ j.tilt ∧ j.tilt ≤ 256) ∧ (1 ≤ j.width ∧ j.width ≤ 1000) ∧ (1 ≤ j.every ∧ j.every ≤ 100000000) ∧ kOk j.train.kind = true ∧ trainOk j.train = true := by
  unfold jobErr at h
  by_cases hc : (inB j.tilt 0 256 && inB j.width 1 1000 && inB j.every 1 100000000) = true
  · rw [if_pos hc] at h
    simp only [Bool.and_eq_true, inB_iff] at hc
    unfold trainErr at h
    by_cases hk : kOk j.train.kind = true
    · rw [if_pos hk] at h
      by_cases ht : trainOk j.train = true
      · exact ⟨hc.1.1, hc.1.2, hc.2, hk, ht⟩
      · rw [if_neg ht] at h; omega
    · rw [if_neg hk] at h; omega
  · rw [if_neg hc] at h; omega
theorem kOk_iff {k : Int} : kOk k = true ↔ k = 1 ∨ k = 2 ∨ k = 3 := by simp [kOk, or_assoc]
theorem trainOk_bd {t : TrainD} (hk : kOk t.kind = true) (h : trainOk t = true) : (200 ≤ t.first ∧ t.first ≤ 5000) ∧ (2 ≤ t.count ∧ t.count ≤ 64) ∧ (0 ≤ t.second ∧ t.second ≤ 5000) := by
  unfold trainOk at h
  rw [kOk_iff] at hk
  simp only [Bool.and_eq_true, inB_iff] at h
  obtain ⟨⟨h1, h2⟩, h3⟩ := h
  rcases hk with hk | hk | hk
  · rw [if_pos hk] at h3; simp only [Bool.and_eq_true, inB_iff, beq_iff_eq] at h3; omega
  · rw [if_neg (by omega), if_pos hk] at h3; simp only [Bool.and_eq_true, inB_iff, beq_iff_eq, decide_eq_true_eq] at h3; omega
  · rw [if_neg (by omega), if_neg (by omega)] at h3; simp only [Bool.and_eq_true, inB_iff, decide_eq_true_eq] at h3; omega
theorem radarOk_bd {r : RadarD} (h : radarOk r = true) : (1 ≤ r.rays ∧ r.rays ≤ 360) ∧ (0 ≤ r.turn ∧ r.turn ≤ 600000) ∧ (0 ≤ r.move ∧ r.move ≤ 10000) ∧ (1 ≤ r.duty ∧ r.duty ≤ 1000) := by
  unfold radarOk at h
  simp only [Bool.and_eq_true, inB_iff] at h
  exact ⟨h.1.1.1, h.1.1.2, h.1.2, h.2⟩
theorem upD_bd {a b A : Int} (ha : 0 ≤ a ∧ a ≤ A) (hb : 1 ≤ b ∧ b ≤ 1000) : 0 ≤ upD a b ∧ upD a b ≤ A + 999 := by
  unfold upD
  refine ⟨Int.ediv_nonneg (by omega) (by omega), ?_⟩
  have := Int.ediv_le_self b (a := a + b - 1) (by omega)
  omega
theorem pulses_bd {t : TrainD} (hk : kOk t.kind = true) (h : trainOk t = true) : 0 ≤ pulses t ∧ pulses t ≤ 320000 := by
  have hb := trainOk_bd hk h
  unfold pulses
  have m1 := mul_bd (a := t.count) (b := t.first) (A := 64) (B := 5000) (by omega) (by omega)
  have m2 := mul_bd (a := t.count / 2) (b := t.first + t.second) (A := 32) (B := 10000) (by omega) (by omega)
  have m3 := mul_bd (a := (t.count + 1) / 2) (b := t.first) (A := 32) (B := 5000) (by omega) (by omega)
  have m4 := mul_bd (a := t.count / 2) (b := t.second) (A := 32) (B := 5000) (by omega) (by omega)
  split
  · omega
  · split <;> omega
/-- The longest time of a job. -/
theorem timeJ_bd {r : RadarD} {j : JobD} (hr : radarOk r = true) (hj : jobErr j = 0) : 0 ≤ timeJ r j ∧ timeJ r j ≤ 3000000000 := by
  obtain ⟨h1, h2, h3, hk, ht⟩ := jobErr_ok hj
  have hb := trainOk_bd hk ht
  have hrb := radarOk_bd hr
  have hp := pulses_bd hk ht
  have m1 := mul_bd (a := 100 * j.train.count) (b := j.width) (A := 6400) (B := 1000) (by omega) (by omega)
  have u1 := upD_bd (a := 100 * j.train.count * j.width) (A := 6400000) (by omega) hrb.2.2.2
  have x1 := mx_spec (pulses j.train) (upD (100 * j.train.count * j.width) r.duty)
  have m2 := mul_bd (a := r.rays) (b := mx (pulses j.train) (upD (100 * j.train.count * j.width) r.duty)) (A := 360) (B := 6400999) (by omega) (by omega)
  have u2 := upD_bd (a := r.rays * mx (pulses j.train) (upD (100 * j.train.count * j.width) r.duty)) (b := 1000) (A := 2304359640) (by omega) (by omega)
  have x2 := mx_spec r.turn (upD (r.rays * mx (pulses j.train) (upD (100 * j.train.count * j.width) r.duty)) 1000)
  unfold timeJ
  omega
theorem moveJ_bd {r : RadarD} {a b : JobD} (hr : radarOk r = true) (ha : jobErr a = 0) (hb : jobErr b = 0) : 0 ≤ moveJ r a b ∧ moveJ r a b ≤ 2560000 := by
  have h1 := (jobErr_ok ha).1
  have h2 := (jobErr_ok hb).1
  have x := mx_spec (a.tilt - b.tilt) (b.tilt - a.tilt)
  have m := mul_bd (a := r.move) (b := mx (a.tilt - b.tilt) (b.tilt - a.tilt)) (A := 10000) (B := 256) (radarOk_bd hr).2.2.1 (by omega)
  unfold moveJ
  omega
/-- What the rounds of the document's loop add. -/
def secondAt (t : TrainD) (k : Nat) : Bool := bif (bif (t.kind == 2) then decide ((k : Int) ≥ t.count / 2) else false) then true else (bif (t.kind == 3) then (((k : Int) % 2) == 1) else false)
def sumP (t : TrainD) : Nat → Int
  | 0 => 0
  | k + 1 => sumP t k + if secondAt t k then t.second else t.first
theorem sumP_bd {t : TrainD} (hf : 0 ≤ t.first ∧ t.first ≤ 5000) (hs : 0 ≤ t.second ∧ t.second ≤ 5000) : ∀ k, 0 ≤ sumP t k ∧ sumP t k ≤ 5000 * (k : Int) := by
  intro k
  induction k with
  | zero => simp [sumP]
  | succ k ih =>
    simp only [sumP]
    split <;> omega
theorem sumP_one {t : TrainD} (h : t.kind = 1) : ∀ k : Nat, sumP t k = (k : Int) * t.first := by
  intro k
  induction k with
  | zero => simp [sumP]
  | succ k ih => simp [sumP, secondAt, h, ih, Int.add_mul]
theorem sumP_two {t : TrainD} (h : t.kind = 2) (hc : 0 ≤ t.count) : ∀ k : Nat, sumP t k = if (k : Int) ≤ t.count / 2 then (k : Int) * t.first else t.count / 2 * t.first + ((k : Int) - t.count / 2) * t.second := by
  intro k
  have hm : 0 ≤ t.count / 2 := by omega
  generalize hM : t.count / 2 = m at hm ⊢
  induction k with
  | zero => simp [sumP, hm]
  | succ k ih =>
    have e1 : ((k + 1 : Nat) : Int) * t.first = (k : Int) * t.first + t.first := by rw [show ((k + 1 : Nat) : Int) = (k : Int) + 1 by omega, Int.add_mul, Int.one_mul]
    have e2 : (((k + 1 : Nat) : Int) - m) * t.second = ((k : Int) - m) * t.second + t.second := by rw [show ((k + 1 : Nat) : Int) - m = ((k : Int) - m) + 1 by omega, Int.add_mul, Int.one_mul]
    have es : secondAt t k = decide ((k : Int) ≥ m) := by simp [secondAt, h, hM, Bool.cond_eq_ite]
    simp only [sumP, es, ih]
    by_cases h1 : (k : Int) < m
    · have c1 : (k : Int) ≤ m := by omega
      have c2 : ((k + 1 : Nat) : Int) ≤ m := by omega
      have c3 : decide ((k : Int) ≥ m) = false := by simp; omega
      rw [if_pos c1, if_pos c2, c3, e1]; simp
    · have c2 : ¬ ((k + 1 : Nat) : Int) ≤ m := by omega
      have c3 : decide ((k : Int) ≥ m) = true := by simp; omega
      rw [if_neg c2, c3, e2]
      by_cases h2 : (k : Int) = m
      · have c1 : (k : Int) ≤ m := by omega
        rw [if_pos c1, h2]; simp
      · have c1 : ¬ (k : Int) ≤ m := by omega
        rw [if_neg c1]; simp; omega
theorem sumP_three {t : TrainD} (h : t.kind = 3) : ∀ k : Nat, sumP t k = ((k : Int) + 1) / 2 * t.first + (k : Int) / 2 * t.second := by
  intro k
  induction k with
  | zero => simp [sumP]
  | succ k ih =>
    have es : secondAt t k = (((k : Int) % 2) == 1) := by simp [secondAt, h]
    simp only [sumP, es, ih]
    rcases Nat.mod_two_eq_zero_or_one k with hk | hk
    · have e1 : ((k + 1 : Nat) : Int) / 2 = (k : Int) / 2 := by omega
      have e2 : (((k + 1 : Nat) : Int) + 1) / 2 = ((k : Int) + 1) / 2 + 1 := by omega
      have e3 : ((k : Int) % 2 == 1) = false := by simp; omega
      rw [e1, e2, e3, Int.add_mul, Int.one_mul]; simp; omega
    · have e1 : ((k + 1 : Nat) : Int) / 2 = (k : Int) / 2 + 1 := by omega
      have e2 : (((k + 1 : Nat) : Int) + 1) / 2 = ((k : Int) + 1) / 2 := by omega
      have e3 : ((k : Int) % 2 == 1) = true := by simp; omega
      rw [e1, e2, e3, Int.add_mul, Int.one_mul]; simp; omega
theorem sumP_all {t : TrainD} (hk : kOk t.kind = true) (h : trainOk t = true) {k : Nat} (hc : (k : Int) = t.count) : sumP t k = pulses t := by
  have hb := trainOk_bd hk h
  unfold pulses
  rw [kOk_iff] at hk
  rcases hk with hk | hk | hk
  · rw [if_pos hk, sumP_one hk, hc]
  · have hev : t.count.tmod 2 = 0 := by
      unfold trainOk at h
      rw [if_neg (by omega), if_pos hk] at h
      simp only [Bool.and_eq_true, beq_iff_eq] at h
      exact h.2.1.1.1
    have hev' : t.count % 2 = 0 := by rw [← Int.tmod_eq_emod_of_nonneg (by omega)]; exact hev
    rw [if_neg (by omega), if_pos hk, sumP_two hk (by omega), hc, if_neg (by omega), Int.mul_add]
    rw [show t.count - t.count / 2 = t.count / 2 by omega]
  · rw [if_neg (by omega), if_neg (by omega), sumP_three hk, hc]
/-- The document's quotients. -/
theorem down_eq {x y : Int} (hy : 0 < y) : (if x.tmod y < 0 then x.tdiv y - 1 else x.tdiv y) = x / y := by
  by_cases h0 : 0 ≤ x
  · rw [Int.tmod_eq_emod_of_nonneg h0, Int.tdiv_eq_ediv_of_nonneg h0, if_neg]
    have := Int.emod_nonneg x (by omega : y ≠ 0)
    omega
  · have e1 : x.tdiv y = -((-x) / y) := by
      rw [← Int.tdiv_eq_ediv_of_nonneg (show 0 ≤ -x by omega), Int.neg_tdiv, Int.neg_neg]
    have e2 : x.tmod y = -((-x) % y) := by
      rw [← Int.tmod_eq_emod_of_nonneg (show 0 ≤ -x by omega), Int.neg_tmod, Int.neg_neg]
    have h1 := Int.emod_nonneg (-x) (by omega : y ≠ 0)
    have h2 := Int.emod_lt_of_pos (-x) hy
    have h3 := Int.mul_ediv_add_emod (-x) y
    rw [e1, e2]
    generalize hq : (-x) / y = q at *
    generalize hr : (-x) % y = s at *
    by_cases hs : s = 0
    · rw [if_neg (by omega)]
      have : x = y * (-q) := by rw [Int.mul_neg]; omega
      rw [this, Int.mul_ediv_cancel_left _ (by omega)]
    · rw [if_pos (by omega)]
      have : x = (y - s) + y * (-q - 1) := by rw [Int.mul_sub, Int.mul_neg, Int.mul_one]; omega
      rw [this, Int.add_mul_ediv_left _ _ (by omega), Int.ediv_eq_zero_of_lt (by omega) (by omega)]
      omega
theorem up_eq {x y : Int} (_hx : 0 ≤ x) (hy : 0 < y) : -((-x) / y) = upD x y := by
  unfold upD
  have h1 := Int.emod_nonneg x (by omega : y ≠ 0)
  have h2 := Int.emod_lt_of_pos x hy
  have h3 := Int.mul_ediv_add_emod x y
  generalize hq : x / y = q at *
  generalize hr : x % y = s at *
  by_cases hs : s = 0
  · have e : -x = y * (-q) := by rw [Int.mul_neg]; omega
    rw [e, Int.mul_ediv_cancel_left _ (by omega)]
    have : x + y - 1 = (y - 1) + y * q := by omega
    rw [this, Int.add_mul_ediv_left _ _ (by omega), Int.ediv_eq_zero_of_lt (by omega) (by omega)]
    omega
  · have e : -x = (y - s) + y * (-q - 1) := by rw [Int.mul_sub, Int.mul_neg, Int.mul_one]; omega
    rw [e, Int.add_mul_ediv_left _ _ (by omega), Int.ediv_eq_zero_of_lt (by omega) (by omega)]
    have : x + y - 1 = (s - 1) + y * (q + 1) := by rw [Int.mul_add, Int.mul_one]; omega
    rw [this, Int.add_mul_ediv_left _ _ (by omega), Int.ediv_eq_zero_of_lt (by omega) (by omega)]
    omega
theorem firstErr_drop {l : List JobD} {k : Nat} (h : k < l.length) : firstErr (l.drop k) = if jobErr (l.getD k default) = 0 then firstErr (l.drop (k + 1)) else jobErr (l.getD k default) := by
  rw [List.drop_eq_getElem_cons h, firstErr, List.getD_eq_getElem?_getD, List.getElem?_eq_getElem h]
  rfl
theorem firstErr_done {l : List JobD} {k : Nat} (h : l.length ≤ k) : firstErr (l.drop k) = 0 := by
  rw [List.drop_eq_nil_of_le h]; rfl
end Go.Plan
