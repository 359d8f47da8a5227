/- The plain side of chapter 6, part 2. -/
import Derived.Test.YtejffembnkojjaaC9PlanM
namespace Go.Plan
set_option linter.unusedVariables false
set_option linter.unusedSimpArgs false
theorem checkE_ok {r : RadarD} {l : List JobD} (h : checkE r l = 0) : radarOk r = true ∧ (1 ≤ l.length ∧ l.length ≤ 6) ∧ firstErr l = 0 := by
  unfold checkE at h
  by_cases hr : radarOk r = true
  · rw [if_pos hr] at h
    by_cases hl : inB l.length 1 6 = true
    · rw [if_pos hl] at h
      rw [inB_iff] at hl
      exact ⟨hr, by omega, h⟩
    · rw [if_neg hl] at h; omega
  · rw [if_neg hr] at h; omega
theorem take_snoc {α : Type} {l : List α} {k : Nat} {d : α} (h : k < l.length) : l.take k ++ [l.getD k d] = l.take (k + 1) := by
  rw [List.take_add_one, List.getD_eq_getElem?_getD, List.getElem?_eq_getElem h]; rfl
theorem map_take_snoc {α β : Type} {l : List α} {k : Nat} {d : α} {f : α → β} (h : k < l.length) : (l.take k).map f ++ [f (l.getD k d)] = (l.take (k + 1)).map f := by
  rw [← take_snoc (d := d) h, List.map_append]; rfl
/-! ### Sequences -/
def tk (r : RadarD) (l : List JobD) (j : Int) : Int := timeJ r (l.getD j.toNat default)
def mv (r : RadarD) (l : List JobD) (a b : Int) : Int := moveJ r (l.getD a.toNat default) (l.getD b.toNat default)
structure LineD where
  jobs : List Int
  ats : List Int
  done : Int
def beginD (r : RadarD) (l : List JobD) (x : LineD) (j : Int) : Int := if x.jobs.length = 0 then 0 else x.done + mv r l (x.jobs.getD (x.jobs.length - 1) 0) j
def addD (r : RadarD) (l : List JobD) (x : LineD) (j : Int) : LineD := ⟨x.jobs ++ [j], x.ats ++ [beginD r l x j], beginD r l x j + tk r l j⟩
def lineD (r : RadarD) (l : List JobD) (s : List Int) : LineD := s.foldl (addD r l) ⟨[], [], 0⟩
def atD (r : RadarD) (l : List JobD) (s : List Int) : List Int := (lineD r l s).ats
def doneD (r : RadarD) (l : List JobD) (s : List Int) : Int := (lineD r l s).done
theorem lineD_snoc (r : RadarD) (l : List JobD) (s : List Int) (j : Int) : lineD r l (s ++ [j]) = addD r l (lineD r l s) j := by simp [lineD]
theorem snoc_ind {α : Type} {P : List α → Prop} (h0 : P []) (h1 : ∀ s x, P s → P (s ++ [x])) : ∀ s, P s := by
  intro s
  have : ∀ n (s : List α), s.length = n → P s := by
    intro n
    induction n with
    | zero => intro s hs; cases s with
      | nil => exact h0
      | cons _ _ => simp at hs
    | succ n ih =>
      intro s hs
      have hne : s ≠ [] := by intro e; subst e; simp at hs
      have e := List.dropLast_concat_getLast hne
      rw [← e]
      exact h1 _ _ (ih _ (by simp [hs]))
  exact this _ s rfl
theorem lineD_jobs (r : RadarD) (l : List JobD) : ∀ s, (lineD r l s).jobs = s := by
  refine snoc_ind rfl ?_
  intro s j h
  rw [lineD_snoc]; simp [addD, h]
/-- When a job could begin behind a sequence. -/
def startD (r : RadarD) (l : List JobD) (s : List Int) (j : Int) : Int := if s.length = 0 then 0 else doneD r l s + mv r l (s.getD (s.length - 1) 0) j
theorem beginD_eq (r : RadarD) (l : List JobD) (s : List Int) (j : Int) : beginD r l (lineD r l s) j = startD r l s j := by simp [beginD, startD, lineD_jobs, doneD]
theorem atD_snoc (r : RadarD) (l : List JobD) (s : List Int) (j : Int) : atD r l (s ++ [j]) = atD r l s ++ [startD r l s j] := by simp [atD, lineD_snoc, addD, beginD_eq]
theorem doneD_snoc (r : RadarD) (l : List JobD) (s : List Int) (j : Int) : doneD r l (s ++ [j]) = startD r l s j + tk r l j := by simp [doneD, lineD_snoc, addD, beginD_eq]
@[simp] theorem atD_nil (r : RadarD) (l : List JobD) : atD r l [] = [] := rfl
@[simp] theorem doneD_nil (r : RadarD) (l : List JobD) : doneD r l [] = 0 := rfl
theorem atD_len (r : RadarD) (l : List JobD) : ∀ s, (atD r l s).length = s.length := by
  refine snoc_ind rfl ?_
  intro s j h
  rw [atD_snoc]; simp [h]
/-- Jobs that are there. -/
def okS (n : Nat) (s : List Int) : Prop := ∀ i, i < s.length → 0 ≤ s.getD i 0 ∧ s.getD i 0 < n
theorem okS_nil (n : Nat) : okS n [] := fun i h => by simp at h
theorem getD_snoc_lt {s : List Int} {j : Int} {i : Nat} (h : i < s.length) : (s ++ [j]).getD i 0 = s.getD i 0 := by simp [List.getD_eq_getElem?_getD, List.getElem?_append_left h]
theorem getD_snoc_eq {s : List Int} {j : Int} : (s ++ [j]).getD s.length 0 = j := by simp [List.getD_eq_getElem?_getD]
theorem okS_snoc {n : Nat} {s : List Int} {j : Int} (h : okS n s) (hj : 0 ≤ j ∧ j < n) : okS n (s ++ [j]) := by
  intro i hi
  rw [List.length_append] at hi
  simp only [List.length_cons, List.length_nil] at hi
  by_cases hc : i < s.length
  · rw [getD_snoc_lt hc]; exact h i hc
  · have : i = s.length := by omega
    subst this; rw [getD_snoc_eq]; exact hj
theorem okS_init {n : Nat} {s : List Int} {j : Int} (h : okS n (s ++ [j])) : okS n s ∧ 0 ≤ j ∧ j < n := by
  refine ⟨fun i hi => ?_, ?_⟩
  · have := h i (by simp; omega)
    rwa [getD_snoc_lt hi] at this
  · have := h s.length (by simp)
    rwa [getD_snoc_eq] at this
theorem okS_mem {n : Nat} {s : List Int} : okS n s ↔ ∀ j ∈ s, 0 ≤ j ∧ j < n := by
  constructor
  · intro h j hj
    obtain ⟨i, hi, rfl⟩ := List.mem_iff_getElem.1 hj
    have := h i hi
    rwa [List.getD_eq_getElem?_getD, List.getElem?_eq_getElem hi] at this
  · intro h i hi
    rw [List.getD_eq_getElem?_getD, List.getElem?_eq_getElem hi]
    exact h _ (List.getElem_mem hi)
theorem okS_take {n k : Nat} {s : List Int} (h : okS n s) : okS n (s.take k) := okS_mem.2 fun j hj => okS_mem.1 h j (List.mem_of_mem_take hj)
/-- Jobs that are valid, by their places. -/
def okJ (l : List JobD) : Prop := ∀ i, i < l.length → jobErr (l.getD i default) = 0
theorem tk_bd {r : RadarD} {l : List JobD} (hr : radarOk r = true) (hl : okJ l) {j : Int} (hj : 0 ≤ j ∧ j < l.length) : 0 ≤ tk r l j ∧ tk r l j ≤ 3000000000 := timeJ_bd hr (hl _ (by omega))
theorem mv_bd {r : RadarD} {l : List JobD} (hr : radarOk r = true) (hl : okJ l) {i j : Int} (hi : 0 ≤ i ∧ i < l.length) (hj : 0 ≤ j ∧ j < l.length) : 0 ≤ mv r l i j ∧ mv r l i j ≤ 2560000 := moveJ_bd hr (hl _ (by omega)) (hl _ (by omega))
theorem startD_bd0 {r : RadarD} {l : List JobD} (hr : radarOk r = true) (hl : okJ l) {s : List Int} (hs : okS l.length s) (hd : 0 ≤ doneD r l s ∧ doneD r l s ≤ s.length * 3100000000) {j : Int} (hj : 0 ≤ j ∧ j < l.length) : 0 ≤ startD r l s j ∧ startD r l s j ≤ s.length * 3100000000 + 2560000 := by
  unfold startD
  split
  · omega
  · have := mv_bd hr hl (hs (s.length - 1) (by omega)) hj
    omega
theorem doneD_bd {r : RadarD} {l : List JobD} (hr : radarOk r = true) (hl : okJ l) : ∀ s, okS l.length s → 0 ≤ doneD r l s ∧ doneD r l s ≤ s.length * 3100000000 := by
  refine snoc_ind (fun _ => by simp) ?_
  intro s j ih hs
  obtain ⟨h1, hj⟩ := okS_init hs
  have := startD_bd0 hr hl h1 (ih h1) hj
  have := tk_bd hr hl hj
  rw [doneD_snoc]
  simp only [List.length_append, List.length_cons, List.length_nil]
  omega
theorem startD_bd {r : RadarD} {l : List JobD} (hr : radarOk r = true) (hl : okJ l) {s : List Int} (hs : okS l.length s) {j : Int} (hj : 0 ≤ j ∧ j < l.length) : 0 ≤ startD r l s j ∧ startD r l s j ≤ s.length * 3100000000 + 2560000 := startD_bd0 hr hl hs (doneD_bd hr hl s hs) hj
theorem map_getD' {α β : Type} (f : α → β) {l : List α} {i : Nat} {d : α} {e : β} (h : i < l.length) : (l.map f).getD i e = f (l.getD i d) := by
  simp [List.getD_eq_getElem?_getD, List.getElem?_eq_getElem h]
/-! ### Gaps -/
def allD (r : RadarD) (l : List JobD) (s : List Int) : Int := startD r l s (s.getD 0 0)
def last1 (r : RadarD) (l : List JobD) (s : List Int) (n : Nat) : Nat → List Int
  | 0 => List.replicate n 0
  | k + 1 => (last1 r l s n k).set (s.getD k 0).toNat ((atD r l s).getD k 0 - allD r l s)
def gap2 (r : RadarD) (l : List JobD) (s : List Int) (n : Nat) : Nat → List Int × List Int
  | 0 => (List.replicate n 0, last1 r l s n s.length)
  | k + 1 => ((gap2 r l s n k).1.set (s.getD k 0).toNat (mx ((gap2 r l s n k).1.getD (s.getD k 0).toNat 0) ((atD r l s).getD k 0 - (gap2 r l s n k).2.getD (s.getD k 0).toNat 0)), (gap2 r l s n k).2.set (s.getD k 0).toNat ((atD r l s).getD k 0))
def gapsD (r : RadarD) (l : List JobD) (s : List Int) (n : Nat) : List Int := (gap2 r l s n s.length).1
theorem last1_len (r : RadarD) (l : List JobD) (s : List Int) (n : Nat) : ∀ k, (last1 r l s n k).length = n := by
  intro k
  induction k with
  | zero => simp [last1]
  | succ k ih => simp [last1, ih]
theorem gap2_len (r : RadarD) (l : List JobD) (s : List Int) (n : Nat) : ∀ k, (gap2 r l s n k).1.length = n ∧ (gap2 r l s n k).2.length = n := by
  intro k
  induction k with
  | zero => simp [gap2, last1_len]
  | succ k ih => simp [gap2, ih]
theorem set_getD {l : List Int} {i j : Nat} {x : Int} : (l.set i x).getD j 0 = if i = j ∧ i < l.length then x else l.getD j 0 := by
  simp only [List.getD_eq_getElem?_getD, List.getElem?_set]
  by_cases h : i = j
  · subst h
    by_cases h2 : i < l.length
    · simp [h2]
    · simp [h2]
  · simp [h]
theorem set_bd {l : List Int} {lo hi x : Int} {i : Nat} (h : ∀ j, lo ≤ l.getD j 0 ∧ l.getD j 0 ≤ hi) (hx : lo ≤ x ∧ x ≤ hi) : ∀ j, lo ≤ (l.set i x).getD j 0 ∧ (l.set i x).getD j 0 ≤ hi := by
  intro j
  rw [set_getD]
  split
  · exact hx
  · exact h j
theorem rep_bd {lo hi : Int} (n : Nat) (h : lo ≤ 0 ∧ 0 ≤ hi) : ∀ j, lo ≤ (List.replicate n (0 : Int)).getD j 0 ∧ (List.replicate n (0 : Int)).getD j 0 ≤ hi := by
  intro j
  have : (List.replicate n (0 : Int)).getD j 0 = 0 := by
    simp only [List.getD_eq_getElem?_getD, List.getElem?_replicate]
    split <;> rfl
  rw [this]; exact h
theorem atD_bd {r : RadarD} {l : List JobD} (hr : radarOk r = true) (hl : okJ l) : ∀ s, okS l.length s → ∀ i, 0 ≤ (atD r l s).getD i 0 ∧ (atD r l s).getD i 0 ≤ s.length * 3100000000 := by
  refine snoc_ind (fun _ i => by simp) ?_
  intro s j ih hs i
  obtain ⟨h1, hj⟩ := okS_init hs
  have hb := startD_bd hr hl h1 hj
  rw [atD_snoc]
  have hl2 := atD_len r l s
  simp only [List.length_append, List.length_cons, List.length_nil]
  by_cases hc : i < (atD r l s).length
  · rw [getD_snoc_lt hc]
    have := ih h1 i
    omega
  · by_cases he : i = (atD r l s).length
    · subst he; rw [getD_snoc_eq]; omega
    · have : (atD r l s ++ [startD r l s j]).getD i 0 = 0 := by
        rw [List.getD_eq_getElem?_getD, List.getElem?_eq_none (by simp; omega)]; rfl
      rw [this]; omega
theorem allD_bd {r : RadarD} {l : List JobD} (hr : radarOk r = true) (hl : okJ l) {s : List Int} (hs : okS l.length s) (h1 : 1 ≤ s.length) : 0 ≤ allD r l s ∧ allD r l s ≤ s.length * 3100000000 + 2560000 :=
  startD_bd hr hl hs (hs 0 (by omega))
theorem last1_bd {r : RadarD} {l : List JobD} (hr : radarOk r = true) (hl : okJ l) {s : List Int} (hs : okS l.length s) (h1 : 1 ≤ s.length) (h60 : s.length ≤ 60) (n : Nat) : ∀ k j, -400000000000 ≤ (last1 r l s n k).getD j 0 ∧ (last1 r l s n k).getD j 0 ≤ 400000000000 := by
  intro k
  induction k with
  | zero => exact rep_bd n (by omega)
  | succ k ih =>
    have := atD_bd hr hl s hs k
    have := allD_bd hr hl hs h1
    exact set_bd ih (by omega)
theorem gap2_bd {r : RadarD} {l : List JobD} (hr : radarOk r = true) (hl : okJ l) {s : List Int} (hs : okS l.length s) (h1 : 1 ≤ s.length) (h60 : s.length ≤ 60) (n : Nat) : ∀ k, (∀ j, 0 ≤ (gap2 r l s n k).1.getD j 0 ∧ (gap2 r l s n k).1.getD j 0 ≤ 800000000000) ∧ (∀ j, -400000000000 ≤ (gap2 r l s n k).2.getD j 0 ∧ (gap2 r l s n k).2.getD j 0 ≤ 400000000000) := by
  intro k
  induction k with
  | zero => exact ⟨rep_bd n (by omega), last1_bd hr hl hs h1 h60 n _⟩
  | succ k ih =>
    have := atD_bd hr hl s hs k
    have h2 := ih.1 (s.getD k 0).toNat
    have h3 := ih.2 (s.getD k 0).toNat
    have hx := mx_spec ((gap2 r l s n k).1.getD (s.getD k 0).toNat 0) ((atD r l s).getD k 0 - (gap2 r l s n k).2.getD (s.getD k 0).toNat 0)
    exact ⟨set_bd ih.1 (by omega), set_bd ih.2 (by omega)⟩
/-! ### Judging -/
def inS (n : Nat) (s : List Int) : Bool := s.all fun j => inB j 0 ((n : Int) - 1)
theorem inS_iff {n : Nat} {s : List Int} : inS n s = true ↔ okS n s := by
  rw [okS_mem, inS, List.all_eq_true]
  constructor
  · intro h j hj; have := inB_iff.1 (h j hj); omega
  · intro h j hj; have := h j hj; exact inB_iff.2 (by omega)
theorem inS_bad {n i : Nat} {s : List Int} (hi : i < s.length) (h : inB (s.getD i 0) 0 ((n : Int) - 1) = false) : inS n s = false := by
  cases hc : inS n s with
  | false => rfl
  | true =>
    have := inS_iff.1 hc i hi
    have h2 := inB_false.1 h
    omega
def judgeE (r : RadarD) (l : List JobD) (s : List Int) : Int :=
  if checkE r l = 0 then (if inB s.length 1 12 then (if inS l.length s then (if (gapsD r l s l.length).contains 0 then 23 else 0) else 4) else 3) else checkE r l
def slack2 (l : List JobD) (g : List Int) : Nat → List Int
  | 0 => g
  | q + 1 => (slack2 l g q).set q ((l.getD q default).every - (slack2 l g q).getD q 0)
theorem slack2_len (l : List JobD) (g : List Int) : ∀ q, (slack2 l g q).length = g.length := by
  intro q
  induction q with
  | zero => rfl
  | succ q ih => simp [slack2, ih]
theorem slack2_get (l : List JobD) (g : List Int) : ∀ q j, (slack2 l g q).getD j 0 = if j < q ∧ j < g.length then (l.getD j default).every - g.getD j 0 else g.getD j 0 := by
  intro q
  induction q with
  | zero => intro j; simp [slack2]
  | succ q ih =>
    intro j
    rw [slack2, set_getD, slack2_len, ih q, ih j]
    by_cases h : q = j ∧ q < g.length
    · rw [if_pos h, if_neg (by omega), if_pos (by omega), h.1]
    · rw [if_neg h]
      by_cases h2 : j < q ∧ j < g.length
      · rw [if_pos h2, if_pos (by omega)]
      · rw [if_neg h2, if_neg (by omega)]
def slackD (r : RadarD) (l : List JobD) (s : List Int) : List Int := slack2 l (gapsD r l s l.length) l.length
theorem gapsD_len (r : RadarD) (l : List JobD) (s : List Int) (n : Nat) : (gapsD r l s n).length = n := (gap2_len r l s n s.length).1
theorem contains_get {g : List Int} {i : Nat} (hi : i < g.length) (h : g.getD i 0 = 0) : g.contains 0 = true := by
  rw [List.getD_eq_getElem?_getD, List.getElem?_eq_getElem hi] at h
  rw [List.contains_iff_mem]
  exact h ▸ List.getElem_mem hi
theorem not_contains {g : List Int} (h : ∀ i, i < g.length → g.getD i 0 ≠ 0) : g.contains 0 = false := by
  cases hc : g.contains 0 with
  | false => rfl
  | true =>
    rw [List.contains_iff_mem] at hc
    obtain ⟨i, hi, he⟩ := List.mem_iff_getElem.1 hc
    exact absurd (by rw [List.getD_eq_getElem?_getD, List.getElem?_eq_getElem hi]; exact he) (h i hi)
def judgeL (r : RadarD) (l : List JobD) (s : List Int) : List Int := if judgeE r l s = 0 then slackD r l s else []
/-- Whether no gap is missing or too long. -/
def keptD : List JobD → List Int → Bool
  | j :: l, g :: gs => !(bif g == 0 then true else decide (g > j.every)) && keptD l gs
  | _, _ => true
theorem keptD_step {l : List JobD} {g : List Int} {q : Nat} (h1 : q < l.length) (h2 : q < g.length) : keptD (l.drop q) (g.drop q) = (!(bif g.getD q 0 == 0 then true else decide (g.getD q 0 > (l.getD q default).every)) && keptD (l.drop (q + 1)) (g.drop (q + 1))) := by
  rw [List.drop_eq_getElem_cons h1, List.drop_eq_getElem_cons h2, keptD]
  simp [List.getD_eq_getElem?_getD, List.getElem?_eq_getElem h1, List.getElem?_eq_getElem h2]
theorem keptD_no {a b : Bool} (h : a = true) : (!a && b) = false := by rw [h]; rfl
end Go.Plan
