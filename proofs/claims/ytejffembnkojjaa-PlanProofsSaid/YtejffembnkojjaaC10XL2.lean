/- Chapter 6, plain laws, part 2: desks, sequences, gaps, judging, on the plain programs. -/
import Derived.Test.YtejffembnkojjaaC10XL1
import Derived.Test.YtejffembnkojjaaC10PlanO
namespace Go.Proofs.Ytejffembnkojjaa
open Go Go.Eng Go.Plan
set_option linter.unusedVariables false
set_option linter.unusedSimpArgs false
set_option maxRecDepth 10000
/-! ### Moves -/
theorem plan_move_eq {F : Nat} {r : plan_Radar} {a b : plan_Job} (hr : radarOk (pr r) = true) (ha : jobErr (pj a) = 0) (hb : jobErr (pj b) = 0) : plan_Radar_move F r a b = some (moveJ (pr r) (pj a) (pj b)) := by
  have h1 := (jobErr_ok ha).1
  have h2 := (jobErr_ok hb).1
  have hrb := radarOk_bd hr
  simp only [pj, pr] at h1 h2 hrb
  have x := mx_spec (a.Tilt - b.Tilt) (b.Tilt - a.Tilt)
  have m := mul_bd (a := r.Move) (b := mx (a.Tilt - b.Tilt) (b.Tilt - a.Tilt)) (A := 10000) (B := 256) hrb.2.2.1 (by omega)
  rw [plan_Radar_move, ckb (by omega), ckb (by omega), mx_if, ckb (by omega)]
  rfl
/-! ### The desk -/
abbrev dj (l : List plan_Job) : List JobD := l.map pj
def deskP (r : plan_Radar) (l : List plan_Job) : plan_desk := ⟨l, l.map fun j => timeJ (pr r) (pj j), l.map fun a => l.map fun b => moveJ (pr r) (pj a) (pj b)⟩
/-- Valid jobs, not too many. -/
structure OkL (r : plan_Radar) (l : List plan_Job) : Prop where
  hr : radarOk (pr r) = true
  hl : ∀ j ∈ l, jobErr (pj j) = 0
  h1 : 1 ≤ l.length
  h6 : l.length ≤ 7
theorem OkL.get {r : plan_Radar} {l : List plan_Job} (h : OkL r l) {k : Nat} (hk : k < l.length) : jobErr (pj (l.getD k default)) = 0 := by
  rw [List.getD_eq_getElem?_getD, List.getElem?_eq_getElem hk]; exact h.hl _ (List.getElem_mem hk)
theorem OkL.okJ {r : plan_Radar} {l : List plan_Job} (h : OkL r l) : okJ (dj l) := by
  intro i hi
  rw [List.length_map] at hi
  rw [← getD_map_pj hi default]; exact h.get hi
theorem OkL.of {r : plan_Radar} {l : List plan_Job} (h : checkE (pr r) (l.map pj) = 0) : OkL r l := by
  obtain ⟨h1, h2, h3⟩ := checkE_ok h
  rw [List.length_map] at h2
  exact ⟨h1, fun j hj => firstErr_all h3 _ (List.mem_map_of_mem hj), h2.1, by omega⟩
theorem newDesk_row {F : Nat} {r : plan_Radar} {l : List plan_Job} (h : OkL r l) (u : plan_Job) (hu : jobErr (pj u) = 0) (rows : List (List Int)) (x : Int) (k2 : List Int → List (List Int) → Int → Option (Option plan_desk)) (tks : List Int) :
    ∀ n k : Nat, k ≤ l.length → l.length < n + k → plan_newDesk_L5 F r l rows x k2 u tks n (k : Int) ((l.take k).map fun b => moveJ (pr r) (pj u) (pj b)) = plan_newDesk_K4 rows x k2 tks (l.map fun b => moveJ (pr r) (pj u) (pj b)) := by
  have h6 := h.h6
  intro n
  induction n with
  | zero => intro k h1 h2; omega
  | succ n ih =>
    intro k hk0 hk
    simp only [plan_newDesk_L5, plan_newDesk_B5]
    by_cases hc : k < l.length
    · rw [bifT (by simp; omega), getb default (by omega), Int.toNat_natCast, plan_move_eq h.hr hu (h.get hc), Option.bind_some, apdb (by simp; omega), ckb (by omega), show (k : Int) + 1 = ((k + 1 : Nat) : Int) by omega]
      rw [map_take_snoc (f := fun b => moveJ (pr r) (pj u) (pj b)) hc]
      exact ih (k + 1) (by omega) (by omega)
    · rw [bifF (by simp; omega), List.take_of_length_le (by omega)]
theorem newDesk_loop {F : Nat} (hF : 8 ≤ F) {r : plan_Radar} {l : List plan_Job} (h : OkL r l) :
    ∀ n k : Nat, k ≤ l.length → l.length < n + k → plan_newDesk_L2 F r l n ((l.take k).map fun j => timeJ (pr r) (pj j)) ((l.take k).map fun a => l.map fun b => moveJ (pr r) (pj a) (pj b)) (k : Int) = some (some (deskP r l)) := by
  have h6 := h.h6
  intro n
  induction n with
  | zero => intro k h1 h2; omega
  | succ n ih =>
    intro k hk0 hk
    simp only [plan_newDesk_L2, plan_newDesk_B2, plan_newDesk_K1]
    by_cases hc : k < l.length
    · have hu := h.get hc
      rw [bifT (by simp; omega), getb default (by omega), Int.toNat_natCast, plan_time_eq h.hr hu, Option.bind_some, apdb (by simp; omega)]
      have := newDesk_row (F := F) h (l.getD k default) hu ((l.take k).map fun a => l.map fun b => moveJ (pr r) (pj a) (pj b)) (k : Int) (plan_newDesk_L2 F r l n) ((l.take k).map (fun j => timeJ (pr r) (pj j)) ++ [timeJ (pr r) (pj (l.getD k default))]) F 0 (by omega) (by omega)
      simp only [List.take_zero, List.map_nil] at this
      rw [show ((0 : Nat) : Int) = 0 from rfl] at this
      rw [this, plan_newDesk_K4, apdb (by simp; omega), plan_newDesk_K3, ckb (by omega), show (k : Int) + 1 = ((k + 1 : Nat) : Int) by omega]
      rw [map_take_snoc (f := fun j => timeJ (pr r) (pj j)) hc, map_take_snoc (f := fun a => l.map fun b => moveJ (pr r) (pj a) (pj b)) hc]
      exact ih (k + 1) (by omega) (by omega)
    · rw [bifF (by simp; omega), List.take_of_length_le (by omega)]
      rfl
theorem newDesk_eq {F : Nat} (hF : 8 ≤ F) {r : plan_Radar} {l : List plan_Job} (h : OkL r l) : plan_newDesk F r l = some (some (deskP r l)) := by
  have h6 := h.h6
  exact newDesk_loop hF h F 0 (by omega) (by omega)
/-! ### Lines -/
def lineP (r : plan_Radar) (l : List plan_Job) (s : List Int) : plan_line := ⟨some (deskP r l), s, atD (pr r) (dj l) s, doneD (pr r) (dj l) s⟩
theorem takes_get {r : plan_Radar} {l : List plan_Job} {j : Int} (hj : 0 ≤ j ∧ j < l.length) : (deskP r l).takes.getD j.toNat 0 = tk (pr r) (dj l) j := by
  simp only [deskP, tk]
  rw [map_getD' (d := default) _ (by omega), ← getD_map_pj (by omega) default]
theorem moves_get {r : plan_Radar} {l : List plan_Job} {i j : Int} (hi : 0 ≤ i ∧ i < l.length) (hj : 0 ≤ j ∧ j < l.length) : ((deskP r l).moves.getD i.toNat []).getD j.toNat 0 = mv (pr r) (dj l) i j := by
  simp only [deskP, mv]
  rw [map_getD' (d := default) _ (by omega), map_getD' (d := default) _ (by omega), ← getD_map_pj (by omega) default, ← getD_map_pj (by omega) default]
theorem clip_eq {F : Nat} {l : List Int} : slices_Clip_int_int F l = some l := by
  rw [slices_Clip_int_int, cutI, if_pos (by omega)]; simp
theorem djl (l : List plan_Job) : (dj l).length = l.length := by simp
theorem next_eq {F : Nat} {r : plan_Radar} {l : List plan_Job} (h : OkL r l) {s : List Int} (hs : okS l.length s) (h1 : 1 ≤ s.length) (h60 : s.length ≤ 1000) {j : Int} (hj : 0 ≤ j ∧ j < l.length) : plan_line_next F (lineP r l s) j = some (startD (pr r) (dj l) s j) := by
  have hd := doneD_bd h.hr h.okJ s (by simpa using hs)
  have hlast := hs (s.length - 1) (by omega)
  have hm := mv_bd h.hr h.okJ (i := s.getD (s.length - 1) 0) (j := j) (by simpa using hlast) (by simpa using hj)
  rw [plan_line_next]
  show ((some (deskP r l)).bind fun d10 => _) = _
  rw [Option.bind_some]
  simp only [lineP]
  rw [ckb (by omega), getb 0 (by omega), show ((s.length : Int) - 1).toNat = s.length - 1 by omega, getb [] (by simpa [deskP] using hlast)]
  rw [getb 0 (by simp only [deskP]; rw [map_getD' (d := default) _ (by omega)]; simpa using hj), moves_get hlast hj, ckb (by omega)]
  unfold startD
  rw [if_neg (by omega)]
theorem add_eq {F : Nat} {r : plan_Radar} {l : List plan_Job} (h : OkL r l) {s : List Int} (hs : okS l.length s) (h60 : s.length ≤ 1000) {j : Int} (hj : 0 ≤ j ∧ j < l.length) : plan_line_add F (lineP r l s) j = some (lineP r l (s ++ [j])) := by
  have hst := startD_bd h.hr h.okJ (s := s) (j := j) (by simpa using hs) (by simpa using hj)
  have htk := tk_bd h.hr h.okJ (j := j) (by simpa using hj)
  have hd := doneD_bd h.hr h.okJ s (by simpa using hs)
  have hal := atD_len (pr r) (dj l) s
  have hK : plan_line_add_K1 F (lineP r l s) j (startD (pr r) (dj l) s j) = some (lineP r l (s ++ [j])) := by
    rw [plan_line_add_K1]
    show ((some (deskP r l)).bind fun d10 => _) = _
    rw [Option.bind_some, getb 0 (by simpa [deskP] using hj), takes_get hj, ckb (by omega), clip_eq, Option.bind_some]
    simp only [lineP]
    rw [apdb (by simp; omega), clip_eq, Option.bind_some, apdb (by simp; omega), atD_snoc, doneD_snoc]
  rw [plan_line_add]
  by_cases h0 : s.length = 0
  · rw [bifF (by simp [lineP]; exact List.length_eq_zero_iff.1 h0)]
    have : startD (pr r) (dj l) s j = 0 := by simp [startD, h0]
    rw [this] at hK
    exact hK
  · have hlast := hs (s.length - 1) (by omega)
    have hm := mv_bd h.hr h.okJ (i := s.getD (s.length - 1) 0) (j := j) (by simpa using hlast) (by simpa using hj)
    rw [bifT (by simp [lineP]; omega)]
    show ((some (deskP r l)).bind fun d10 => _) = _
    rw [Option.bind_some]
    simp only [show (lineP r l s).jobs = s from rfl, show (lineP r l s).done = doneD (pr r) (dj l) s from rfl]
    rw [ckb (by omega), getb 0 (by omega), show ((s.length : Int) - 1).toNat = s.length - 1 by omega, getb [] (by simpa [deskP] using hlast)]
    rw [getb 0 (by simp only [deskP]; rw [map_getD' (d := default) _ (by omega)]; simpa using hj), moves_get hlast hj, ckb (by omega)]
    have : startD (pr r) (dj l) s j = doneD (pr r) (dj l) s + mv (pr r) (dj l) (s.getD (s.length - 1) 0) j := by unfold startD; rw [if_neg h0]
    rw [← this]
    exact hK
end Go.Proofs.Ytejffembnkojjaa
