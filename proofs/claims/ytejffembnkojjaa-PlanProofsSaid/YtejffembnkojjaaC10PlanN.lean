/- The plain side of chapter 6, part 2. -/
import Derived.Test.YtejffembnkojjaaC10PlanM
namespace Go.Plan
set_option linter.unusedVariables false
set_option linter.unusedSimpArgs false
theorem checkE_ok {r : RadarD} {l : List JobD} (h : checkE r l = 0) : radarOk r = true ∧ (1 ≤ l.length ∧ l.length ≤ 6) ∧ firstErr l = 0 := by
  unfold checkE at h
  by_cases hr : radarOk r = true
  · rw [if_pos hr] at h
    by_cases hl : inB l.length 1 6 = true
    · rw [if_pos hl] at h
      rw [inB_iff] at hl
      exact ⟨hr, by omega, h⟩
    · rw [if_neg hl] at h; omega
  · rw [if_neg hr] at h; omega
theorem take_snoc {α : Type} {l : List α} {k : Nat} {d : α} (h : k < l.length) : l.take k ++ [l.getD k d] = l.take (k + 1) := by
  rw [List.take_add_one, List.getD_eq_getElem?_getD, List.getElem?_eq_getElem h]; rfl
theorem map_take_snoc {α β : Type} {l : List α} {k : Nat} {d : α} {f : α → β} (h : k < l.length) : (l.take k).map f ++ [f (l.getD k d)] = (l.take (k + 1)).map f := by
  rw [← take_snoc (d := d) h, List.map_append]; rfl
/-! ### Sequences -/
def tk (r : RadarD) (l : List JobD) (j : Int) : Int := timeJ r (l.getD j.toNat default)
def mv (r : RadarD) (l : List JobD) (a b : Int) : Int := moveJ r (l.getD a.toNat default) (l.getD b.toNat default)
structure LineD where
  jobs : List Int
  ats : List Int
  done : Int
def beginD (r : RadarD) (l : List JobD) (x : LineD) (j : Int) : Int := if x.jobs.length = 0 then 0 else x.done + mv r l (x.jobs.getD (x.jobs.length - 1) 0) j
def addD (r : RadarD) (l : List JobD) (x : LineD) (j : Int) : LineD := ⟨x.jobs ++ [j], x.ats ++ [beginD r l x j], beginD r l x j + tk r l j⟩
def lineD (r : RadarD) (l : List JobD) (s : List Int) : LineD := s.foldl (addD r l) ⟨[], [], 0⟩
def atD (r : RadarD) (l : List JobD) (s : List Int) : List Int := (lineD r l s).ats
def doneD (r : RadarD) (l : List JobD) (s : List Int) : Int := (lineD r l s).done
theorem lineD_snoc (r : RadarD) (l : List JobD) (s : List Int) (j : Int) : lineD r l (s ++ [j]) = addD r l (lineD r l s) j := by simp [lineD]
theorem snoc_ind {α : Type} {P : List α → Prop} (h0 : P []) (h1 : ∀ s x, P s → P (s ++ [x])) : ∀ s, P s := by
  intro s
  have : ∀ n (s : List α), s.length = n → P s := by
    intro n
    induction n with
    | zero => intro s hs; cases s with
      | nil => exact h0
      | cons _ _ => simp at hs
    | succ n ih =>
      intro s hs
      have hne : s ≠ [] := by intro e; subst e; simp at hs
      have e := List.dropLast_concat_getLast hne
      rw [← e]
      exact h1 _ _ (ih _ (by simp [hs]))
  exact this _ s rfl
theorem lineD_jobs (r : RadarD) (l : List JobD) : ∀ s, (lineD r l s).jobs = s := by
  refine snoc_ind rfl ?_
  intro s j h
  rw [lineD_snoc]; simp [addD, h]
/-- When a job could begin behind a sequence. -/
def startD (r : RadarD) (l : List JobD) (s : List Int) (j : Int) : Int := if s.length = 0 then 0 else doneD r l s + mv r l (s.getD (s.length - 1) 0) j
theorem beginD_eq (r : RadarD) (l : List JobD) (s : List Int) (j : Int) : beginD r l (lineD r l s) j = startD r l s j := by simp [beginD, startD, lineD_jobs, doneD]
theorem atD_snoc (r : RadarD) (l : List JobD) (s : List Int) (j : Int) : atD r l (s ++ [j]) = atD r l s ++ [startD r l s j] := by simp [atD, lineD_snoc, addD, beginD_eq]
theorem doneD_snoc (r : RadarD) (l : List JobD) (s : List Int) (j : Int) : doneD r l (s ++ [j]) = startD r l s j + tk r l j := by simp [doneD, lineD_snoc, addD, beginD_eq]
@[simp] theorem atD_nil (r : RadarD) (l : List JobD) : atD r l [] = [] := rfl
@[simp] theorem doneD_nil (r : RadarD) (l : List JobD) : doneD r l [] = 0 := rfl
theorem atD_len (r : RadarD) (l : List JobD) : ∀ s, (atD r l s).length = s.length := by
  refine snoc_ind rfl ?_
  intro s j h
  rw [atD_snoc]; simp [h]
/-- Jobs that are there. -/
def okS (n : Nat) (s : List Int) : Prop := ∀ i, i < s.length → 0 ≤ s.getD i 0 ∧ s.getD i 0 < n
theorem okS_nil (n : Nat) : okS n [] := fun i h => by simp at h
theorem getD_snoc_lt {s : List Int} {j : Int} {i : Nat} (h : i < s.length) : (s ++ [j]).getD i 0 = s.getD i 0 := by simp [List.getD_eq_getElem?_getD, List.getElem?_append_left h]
theorem getD_snoc_eq {s : List Int} {j : Int} : (s ++ [j]).getD s.length 0 = j := by simp [List.getD_eq_getElem?_getD]
theorem okS_snoc {n : Nat} {s : List Int} {j : Int} (h : okS n s) (hj : 0 ≤ j ∧ j < n) : okS n (s ++ [j]) := by
  intro i hi
  rw [List.length_append] at hi
  simp only [List.length_cons, List.length_nil] at hi
  by_cases hc : i < s.length
  · rw [getD_snoc_lt hc]; exact h i hc
  · have : i = s.length := by omega
    subst this; rw [getD_snoc_eq]; exact hj
theorem okS_init {n : Nat} {s : List Int} {j : Int} (h : okS n (s ++ [j])) : okS n s ∧ 0 ≤ j ∧ j < n := by
  refine ⟨fun i hi => ?_, ?_⟩
  · have := h i (by simp; omega)
    rwa [getD_snoc_lt hi] at this
  · have := h s.length (by simp)
    rwa [getD_snoc_eq] at this
theorem okS_mem {n : Nat} {s : List Int} : okS n s ↔ ∀ j ∈ s, 0 ≤ j ∧ j < n := by
  constructor
  · intro h j hj
    obtain ⟨i, hi, rfl⟩ := List.mem_iff_getElem.1 hj
    have := h i hi
    rwa [List.getD_eq_getElem?_getD, List.getElem?_eq_getElem hi] at this
  · intro h i hi
    rw [List.getD_eq_getElem?_getD, List.getElem?_eq_getElem hi]
    exact h _ (List.getElem_mem hi)
/-- Jobs that are valid, by their places. -/
def okJ (l : List JobD) : Prop := ∀ i, i < l.length → jobErr (l.getD i default) = 0
theorem tk_bd {r : RadarD} {l : List JobD} (hr : radarOk r = true) (hl : okJ l) {j : Int} (hj : 0 ≤ j ∧ j < l.length) : 0 ≤ tk r l j ∧ tk r l j ≤ 3000000000 := timeJ_bd hr (hl _ (by omega))
theorem mv_bd {r : RadarD} {l : List JobD} (hr : radarOk r = true) (hl : okJ l) {i j : Int} (hi : 0 ≤ i ∧ i < l.length) (hj : 0 ≤ j ∧ j < l.length) : 0 ≤ mv r l i j ∧ mv r l i j ≤ 2560000 := moveJ_bd hr (hl _ (by omega)) (hl _ (by omega))
theorem startD_bd0 {r : RadarD} {l : List JobD} (hr : radarOk r = true) (hl : okJ l) {s : List Int} (hs : okS l.length s) (hd : 0 ≤ doneD r l s ∧ doneD r l s ≤ s.length * 3100000000) {j : Int} (hj : 0 ≤ j ∧ j < l.length) : 0 ≤ startD r l s j ∧ startD r l s j ≤ s.length * 3100000000 + 2560000 := by
  unfold startD
  split
  · omega
  · have := mv_bd hr hl (hs (s.length - 1) (by omega)) hj
    omega
theorem doneD_bd {r : RadarD} {l : List JobD} (hr : radarOk r = true) (hl : okJ l) : ∀ s, okS l.length s → 0 ≤ doneD r l s ∧ doneD r l s ≤ s.length * 3100000000 := by
  refine snoc_ind (fun _ => by simp) ?_
  intro s j ih hs
  obtain ⟨h1, hj⟩ := okS_init hs
  have := startD_bd0 hr hl h1 (ih h1) hj
  have := tk_bd hr hl hj
  rw [doneD_snoc]
  simp only [List.length_append, List.length_cons, List.length_nil]
  omega
theorem startD_bd {r : RadarD} {l : List JobD} (hr : radarOk r = true) (hl : okJ l) {s : List Int} (hs : okS l.length s) {j : Int} (hj : 0 ≤ j ∧ j < l.length) : 0 ≤ startD r l s j ∧ startD r l s j ≤ s.length * 3100000000 + 2560000 := startD_bd0 hr hl hs (doneD_bd hr hl s hs) hj
theorem map_getD' {α β : Type} (f : α → β) {l : List α} {i : Nat} {d : α} {e : β} (h : i < l.length) : (l.map f).getD i e = f (l.getD i d) := by
  simp [List.getD_eq_getElem?_getD, List.getElem?_eq_getElem h]
/-! ### Gaps -/
theorem atD_bd {r : RadarD} {l : List JobD} (hr : radarOk r = true) (hl : okJ l) : ∀ s, okS l.length s → ∀ i, 0 ≤ (atD r l s).getD i 0 ∧ (atD r l s).getD i 0 ≤ s.length * 3100000000 := by
  refine snoc_ind (fun _ i => by simp) ?_
  intro s j ih hs i
  obtain ⟨h1, hj⟩ := okS_init hs
  have hb := startD_bd hr hl h1 hj
  rw [atD_snoc]
  have hl2 := atD_len r l s
  simp only [List.length_append, List.length_cons, List.length_nil]
  by_cases hc : i < (atD r l s).length
  · rw [getD_snoc_lt hc]
    have := ih h1 i
    omega
  · by_cases he : i = (atD r l s).length
    · subst he; rw [getD_snoc_eq]; omega
    · have : (atD r l s ++ [startD r l s j]).getD i 0 = 0 := by
        rw [List.getD_eq_getElem?_getD, List.getElem?_eq_none (by simp; omega)]; rfl
      rw [this]; omega
/-! ### Judging -/
end Go.Plan
