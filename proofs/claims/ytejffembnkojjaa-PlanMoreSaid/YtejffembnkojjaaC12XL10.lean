/- Chapter 6, plain laws, part 10: when jobs begin, by the laws' own reckoning; small times. -/
import Derived.Test.YtejffembnkojjaaC12XL8
namespace Go.Proofs.Ytejffembnkojjaa
open Go Go.Eng Go.Plan
set_option linter.unusedVariables false
set_option linter.unusedSimpArgs false
set_option maxRecDepth 10000
/-- Small jobs. -/
structure OkS (r : plan_Radar) (l : List plan_Job) : Prop where
  L : OkL r l
  j : ∀ x ∈ l, JobN x
  m : r.Move ≤ 3
  t : r.Turn ≤ 29
  y : r.Rays ≤ 8
theorem pulses_small {t : TrainD} (h1 : 200 ≤ t.first) (h2 : t.first ≤ 2750) (h3 : 2 ≤ t.count ∧ t.count ≤ 10) (h4 : 0 ≤ t.second ∧ t.second ≤ 2850) : pulses t ≤ 50000 := by
  unfold pulses
  have m1 := mul_bd (a := t.count) (b := t.first) (A := 10) (B := 2750) (by omega) (by omega)
  have m2 := mul_bd (a := t.count / 2) (b := t.first + t.second) (A := 5) (B := 5600) (by omega) (by omega)
  have m3 := mul_bd (a := (t.count + 1) / 2) (b := t.first) (A := 5) (B := 2750) (by omega) (by omega)
  have m4 := mul_bd (a := t.count / 2) (b := t.second) (A := 5) (B := 2850) (by omega) (by omega)
  split
  · omega
  · split <;> omega
theorem timeJ_small {r : plan_Radar} {j : plan_Job} (hr : radarOk (pr r) = true) (hj : JobN j) (ht : r.Turn ≤ 29) (hy : r.Rays ≤ 8) : timeJ (pr r) (pj j) ≤ 3000 := by
  obtain ⟨h0, h1, h2, h3, h4, h5, h6⟩ := hj
  obtain ⟨_, hw, _, hk, htr⟩ := jobErr_ok h0
  have hb := trainOk_bd hk htr
  have hrb := radarOk_bd hr
  simp only [pj, pt, pr] at hw hb hrb
  have hp : pulses (pt j.Train) ≤ 50000 := pulses_small (t := pt j.Train) hb.1.1 h3 (by show 2 ≤ j.Train.Count ∧ j.Train.Count ≤ 10; omega) (by show 0 ≤ j.Train.Second ∧ j.Train.Second ≤ 2850; omega)
  have hp0 := pulses_bd hk htr
  have m1 := mul_bd (a := 100 * j.Train.Count) (b := j.Width) (A := 1000) (B := 256) (by omega) (by omega)
  have u1 : upD (100 * j.Train.Count * j.Width) r.Duty ≤ 256000 + 999 := (upD_bd (A := 256000) (by omega) (by omega)).2
  have u0 : 0 ≤ upD (100 * j.Train.Count * j.Width) r.Duty := (upD_bd (A := 256000) (by omega) (by omega)).1
  unfold timeJ
  simp only [pr, pj, pt] at *
  have x1 := mx_spec (pulses ⟨j.Train.Lambda, j.Train.Kind, j.Train.First, j.Train.Second, j.Train.Count⟩) (upD (100 * j.Train.Count * j.Width) r.Duty)
  have m2 := mul_bd (a := r.Rays) (b := mx (pulses ⟨j.Train.Lambda, j.Train.Kind, j.Train.First, j.Train.Second, j.Train.Count⟩) (upD (100 * j.Train.Count * j.Width) r.Duty)) (A := 8) (B := 257000) (by omega) (by omega)
  have x2 := mx_spec r.Turn (upD (r.Rays * mx (pulses ⟨j.Train.Lambda, j.Train.Kind, j.Train.First, j.Train.Second, j.Train.Count⟩) (upD (100 * j.Train.Count * j.Width) r.Duty)) 1000)
  have u2 : upD (r.Rays * mx (pulses ⟨j.Train.Lambda, j.Train.Kind, j.Train.First, j.Train.Second, j.Train.Count⟩) (upD (100 * j.Train.Count * j.Width) r.Duty)) 1000 ≤ 2060 := by
    have := upD_mono' (x := r.Rays * mx (pulses ⟨j.Train.Lambda, j.Train.Kind, j.Train.First, j.Train.Second, j.Train.Count⟩) (upD (100 * j.Train.Count * j.Width) r.Duty)) (y := 2059000) (b := 1000) (by omega) (by omega)
    have e : upD 2059000 1000 = 2059 := by decide
    omega
  omega
theorem OkS.tk {r : plan_Radar} {l : List plan_Job} (h : OkS r l) {j : Int} (hj : 0 ≤ j ∧ j < l.length) : Go.Plan.tk (pr r) (dj l) j ≤ 3000 := by
  unfold Go.Plan.tk
  rw [← getD_map_pj (by omega) default]
  refine timeJ_small h.L.hr (h.j _ ?_) h.t h.y
  rw [List.getD_eq_getElem?_getD, List.getElem?_eq_getElem (by omega)]; exact List.getElem_mem _
theorem OkS.mv {r : plan_Radar} {l : List plan_Job} (h : OkS r l) {i j : Int} (hi : 0 ≤ i ∧ i < l.length) (hj : 0 ≤ j ∧ j < l.length) : Go.Plan.mv (pr r) (dj l) i j ≤ 33 := by
  have hm : ∀ k, k < l.length → 0 ≤ (pj (l.getD k default)).tilt ∧ (pj (l.getD k default)).tilt ≤ 11 := fun k hk => by
    have hmem : l.getD k default ∈ l := by rw [List.getD_eq_getElem?_getD, List.getElem?_eq_getElem hk]; exact List.getElem_mem _
    have h1 := h.j _ hmem
    have h2 := (jobErr_ok h1.1).1
    exact ⟨h2.1, h1.2.2.2.2.2.2⟩
  unfold Go.Plan.mv moveJ
  rw [← getD_map_pj (by omega) default, ← getD_map_pj (by omega) default]
  have h1 := hm i.toNat (by omega)
  have h2 := hm j.toNat (by omega)
  have x := mx_spec ((pj (l.getD i.toNat default)).tilt - (pj (l.getD j.toNat default)).tilt) ((pj (l.getD j.toNat default)).tilt - (pj (l.getD i.toNat default)).tilt)
  have hrb := (radarOk_bd h.L.hr).2.2.1
  have := h.m
  exact (mul_bd (A := 3) (B := 11) (by simp only [pr] at hrb ⊢; omega) (by omega)).2
theorem OkS.done {r : plan_Radar} {l : List plan_Job} (h : OkS r l) : ∀ s, okS l.length s → doneD (pr r) (dj l) s ≤ s.length * 3100 := by
  refine snoc_ind (fun _ => by simp) ?_
  intro s j ih hs
  obtain ⟨h1, hj⟩ := okS_init hs
  have h2 := ih h1
  have h3 := h.tk hj
  rw [doneD_snoc]
  unfold startD
  simp only [List.length_append, List.length_cons, List.length_nil]
  split
  · omega
  · have := h.mv (h1 (s.length - 1) (by omega)) hj
    omega
theorem Time_valid {F : Nat} (hF : 8 ≤ F) {r : plan_Radar} {j : plan_Job} (hr : radarOk (pr r) = true) (hj : jobErr (pj j) = 0) : plan_Time F r j = some (timeJ (pr r) (pj j), 0) := by
  rw [plan_Time_eq hF]
  unfold timeE
  have : checkE (pr r) [pj j] = 0 := by
    unfold checkE
    rw [if_pos hr, if_pos (inB_iff.2 (by simp))]
    exact firstErr_zero (fun x hx => by rw [List.mem_singleton] at hx; subst hx; exact hj)
  rw [if_pos this]
theorem lbegins_loop {F : Nat} (hF : 100 ≤ F) {r : plan_Radar} {l : List plan_Job} (h : OkL r l) {s : List Int} (hs : okS l.length s) (h60 : s.length ≤ 100) :
    ∀ n k : Nat, k ≤ s.length → s.length < n + k → law06_begins_L2 F r l s n (k : Int) (doneD (pr r) (dj l) (s.take k)) (atD (pr r) (dj l) (s.take k)) = some (atD (pr r) (dj l) s, true) := by
  have hs' : okS (dj l).length s := by simpa using hs
  intro n
  induction n with
  | zero => intro k h1 h2; omega
  | succ n ih =>
    intro k hk0 hk
    simp only [law06_begins_L2, law06_begins_B2, law06_begins_K1]
    by_cases hc : k < s.length
    · have hx := hs k hc
      have htl : (s.take k).length = k := by simp; omega
      have hst := startD_bd h.hr h.okJ (s := s.take k) (j := s.getD k 0) (okS_take hs') (by simpa using hx)
      have hdn := doneD_bd h.hr h.okJ (s.take k) (okS_take hs')
      have htk := tk_bd h.hr h.okJ (j := s.getD k 0) (by simpa using hx)
      have hpos := tk_pos h.hr h.okJ (j := s.getD k 0) (by simpa using hx)
      have hal := atD_len (pr r) (dj l) (s.take k)
      have hjb := h.get (k := (s.getD k 0).toNat) (by omega)
      have hK : law06_begins_K3 F r l (k : Int) (atD (pr r) (dj l) (s.take k)) (law06_begins_L2 F r l s n) (s.getD k 0) (startD (pr r) (dj l) (s.take k) (s.getD k 0)) = some (atD (pr r) (dj l) s, true) := by
        rw [law06_begins_K3, apdb (by simp; omega), getb default (by omega), Time_valid (by omega) h.hr hjb, Option.bind_some]
        have e : timeJ (pr r) (pj (l.getD (s.getD k 0).toNat default)) = Go.Plan.tk (pr r) (dj l) (s.getD k 0) := by unfold Go.Plan.tk; rw [← getD_map_pj (by omega) default]
        have hcnd : (bif (((Go.Plan.tk (pr r) (dj l) (s.getD k 0), (0 : Int)).2) != 0) then true else decide ((Go.Plan.tk (pr r) (dj l) (s.getD k 0), (0 : Int)).1 < 1)) = false := by
          show decide (Go.Plan.tk (pr r) (dj l) (s.getD k 0) < 1) = false
          exact decide_eq_false (by omega)
        rw [e, bifF hcnd, ckb (by omega), ckb (by omega), show (k : Int) + 1 = ((k + 1 : Nat) : Int) by omega]
        have := ih (k + 1) (by omega) (by omega)
        rw [← take_snoc (d := 0) hc, atD_snoc, doneD_snoc] at this
        exact this
      rw [bifT (by simp; omega), getb 0 (by omega), Int.toNat_natCast]
      by_cases h0 : k = 0
      · subst h0
        rw [bifF (by simp)]
        simpa [startD] using hK
      · have hy := hs (k - 1) (by omega)
        have hja := h.get (k := (s.getD (k - 1) 0).toNat) (by omega)
        have ht1 := (jobErr_ok hjb).1
        have ht2 := (jobErr_ok hja).1
        have hrb := radarOk_bd h.hr
        simp only [pj, pr] at ht1 ht2 hrb
        have x := mx_spec ((l.getD (s.getD k 0).toNat default).Tilt - (l.getD (s.getD (k - 1) 0).toNat default).Tilt) ((l.getD (s.getD (k - 1) 0).toNat default).Tilt - (l.getD (s.getD k 0).toNat default).Tilt)
        have m := mul_bd (a := r.Move) (b := mx ((l.getD (s.getD k 0).toNat default).Tilt - (l.getD (s.getD (k - 1) 0).toNat default).Tilt) ((l.getD (s.getD (k - 1) 0).toNat default).Tilt - (l.getD (s.getD k 0).toNat default).Tilt)) (A := 10000) (B := 256) hrb.2.2.1 (by omega)
        have hlast : (s.take k).getD ((s.take k).length - 1) 0 = s.getD (k - 1) 0 := by
          rw [htl]; simp [List.getD_eq_getElem?_getD, List.getElem?_take, show k - 1 < k by omega]
        have hst2 : startD (pr r) (dj l) (s.take k) (s.getD k 0) = doneD (pr r) (dj l) (s.take k) + r.Move * mx ((l.getD (s.getD k 0).toNat default).Tilt - (l.getD (s.getD (k - 1) 0).toNat default).Tilt) ((l.getD (s.getD (k - 1) 0).toNat default).Tilt - (l.getD (s.getD k 0).toNat default).Tilt) := by
          unfold startD
          rw [if_neg (by omega), hlast]
          unfold Go.Plan.mv moveJ
          rw [← getD_map_pj (by omega) default, ← getD_map_pj (by omega) default, mx_comm]
          rfl
        rw [bifT (by simp; omega), getb default (by omega), ckb (by omega), show (k : Int) - 1 = ((k - 1 : Nat) : Int) by omega, getb 0 (by omega), Int.toNat_natCast, getb default (by omega), ckb (by omega), ckb (by omega), getb 0 (by omega), Int.toNat_natCast, getb default (by omega), getb default (by omega), ckb (by omega), mx_if, ckb (by omega), ← hst2, ckb (by omega)]
        exact hK
    · rw [bifF (by simp; omega), List.take_of_length_le (by omega)]
theorem lbegins_eq {F : Nat} (hF : 200 ≤ F) {r : plan_Radar} {l : List plan_Job} (h : OkL r l) {s : List Int} (hs : okS l.length s) (h60 : s.length ≤ 100) : law06_begins F r l s = some (atD (pr r) (dj l) s, true) :=
  lbegins_loop (by omega) h hs h60 F 0 (by omega) (by omega)
end Go.Proofs.Ytejffembnkojjaa
