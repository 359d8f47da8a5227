/- Chapter 6, plain laws, part 10: when jobs begin, by the laws' own reckoning; small times. -/
import Derived.Test.YtejffembnkojjaaC10XL8
namespace Go.Proofs.Ytejffembnkojjaa
open Go Go.Eng Go.Plan
set_option linter.unusedVariables false
set_option linter.unusedSimpArgs false
set_option maxRecDepth 10000
/-- Small jobs. -/
structure OkS (r : plan_Radar) (l : List plan_Job) : Prop where
  L : OkL r l
  j : ∀ x ∈ l, JobN x
  m : r.Move ≤ 3
  t : r.Turn ≤ 29
  y : r.Rays ≤ 8
theorem pulses_small {t : TrainD} (h1 : 200 ≤ t.first) (h2 : t.first ≤ 2750) (h3 : 2 ≤ t.count ∧ t.count ≤ 10) (h4 : 0 ≤ t.second ∧ t.second ≤ 2850) : pulses t ≤ 50000 := by
  unfold pulses
  have m1 := mul_bd (a := t.count) (b := t.first) (A := 10) (B := 2750) (by omega) (by omega)
  have m2 := mul_bd (a := t.count / 2) (b := t.first + t.second) (A := 5) (B := 5600) (by omega) (by omega)
  have m3 := mul_bd (a := (t.count + 1) / 2) (b := t.first) (A := 5) (B := 2750) (by omega) (by omega)
  have m4 := mul_bd (a := t.count / 2) (b := t.second) (A := 5) (B := 2850) (by omega) (by omega)
  split
  · omega
  · split <;> omega
theorem timeJ_small {r : plan_Radar} {j : plan_Job} (hr : radarOk (pr r) = true) (hj : JobN j) (ht : r.Turn ≤ 29) (hy : r.Rays ≤ 8) : timeJ (pr r) (pj j) ≤ 3000 := by
  obtain ⟨h0, h1, h2, h3, h4, h5, h6⟩ := hj
  obtain ⟨_, hw, _, hk, htr⟩ := jobErr_ok h0
  have hb := trainOk_bd hk htr
  have hrb := radarOk_bd hr
  simp only [pj, pt, pr] at hw hb hrb
  have hp : pulses (pt j.Train) ≤ 50000 := pulses_small (t := pt j.Train) hb.1.1 h3 (by show 2 ≤ j.Train.Count ∧ j.Train.Count ≤ 10; omega) (by show 0 ≤ j.Train.Second ∧ j.Train.Second ≤ 2850; omega)
  have hp0 := pulses_bd hk htr
  have m1 := mul_bd (a := 100 * j.Train.Count) (b := j.Width) (A := 1000) (B := 256) (by omega) (by omega)
  have u1 : upD (100 * j.Train.Count * j.Width) r.Duty ≤ 256000 + 999 := (upD_bd (A := 256000) (by omega) (by omega)).2
  have u0 : 0 ≤ upD (100 * j.Train.Count * j.Width) r.Duty := (upD_bd (A := 256000) (by omega) (by omega)).1
  unfold timeJ
  simp only [pr, pj, pt] at *
  have x1 := mx_spec (pulses ⟨j.Train.Lambda, j.Train.Kind, j.Train.First, j.Train.Second, j.Train.Count⟩) (upD (100 * j.Train.Count * j.Width) r.Duty)
  have m2 := mul_bd (a := r.Rays) (b := mx (pulses ⟨j.Train.Lambda, j.Train.Kind, j.Train.First, j.Train.Second, j.Train.Count⟩) (upD (100 * j.Train.Count * j.Width) r.Duty)) (A := 8) (B := 257000) (by omega) (by omega)
  have x2 := mx_spec r.Turn (upD (r.Rays * mx (pulses ⟨j.Train.Lambda, j.Train.Kind, j.Train.First, j.Train.Second, j.Train.Count⟩) (upD (100 * j.Train.Count * j.Width) r.Duty)) 1000)
  have u2 : upD (r.Rays * mx (pulses ⟨j.Train.Lambda, j.Train.Kind, j.Train.First, j.Train.Second, j.Train.Count⟩) (upD (100 * j.Train.Count * j.Width) r.Duty)) 1000 ≤ 2060 := by
    have := upD_mono' (x := r.Rays * mx (pulses ⟨j.Train.Lambda, j.Train.Kind, j.Train.First, j.Train.Second, j.Train.Count⟩) (upD (100 * j.Train.Count * j.Width) r.Duty)) (y := 2059000) (b := 1000) (by omega) (by omega)
    have e : upD 2059000 1000 = 2059 := by decide
    omega
  omega
theorem OkS.tk {r : plan_Radar} {l : List plan_Job} (h : OkS r l) {j : Int} (hj : 0 ≤ j ∧ j < l.length) : Go.Plan.tk (pr r) (dj l) j ≤ 3000 := by
  unfold Go.Plan.tk
  rw [← getD_map_pj (by omega) default]
  refine timeJ_small h.L.hr (h.j _ ?_) h.t h.y
  rw [List.getD_eq_getElem?_getD, List.getElem?_eq_getElem (by omega)]; exact List.getElem_mem _
theorem OkS.mv {r : plan_Radar} {l : List plan_Job} (h : OkS r l) {i j : Int} (hi : 0 ≤ i ∧ i < l.length) (hj : 0 ≤ j ∧ j < l.length) : Go.Plan.mv (pr r) (dj l) i j ≤ 33 := by
  have hm : ∀ k, k < l.length → 0 ≤ (pj (l.getD k default)).tilt ∧ (pj (l.getD k default)).tilt ≤ 11 := fun k hk => by
    have hmem : l.getD k default ∈ l := by rw [List.getD_eq_getElem?_getD, List.getElem?_eq_getElem hk]; exact List.getElem_mem _
    have h1 := h.j _ hmem
    have h2 := (jobErr_ok h1.1).1
    exact ⟨h2.1, h1.2.2.2.2.2.2⟩
  unfold Go.Plan.mv moveJ
  rw [← getD_map_pj (by omega) default, ← getD_map_pj (by omega) default]
  have h1 := hm i.toNat (by omega)
  have h2 := hm j.toNat (by omega)
  have x := mx_spec ((pj (l.getD i.toNat default)).tilt - (pj (l.getD j.toNat default)).tilt) ((pj (l.getD j.toNat default)).tilt - (pj (l.getD i.toNat default)).tilt)
  have hrb := (radarOk_bd h.L.hr).2.2.1
  have := h.m
  exact (mul_bd (A := 3) (B := 11) (by simp only [pr] at hrb ⊢; omega) (by omega)).2
theorem OkS.done {r : plan_Radar} {l : List plan_Job} (h : OkS r l) : ∀ s, okS l.length s → doneD (pr r) (dj l) s ≤ s.length * 3100 := by
  refine snoc_ind (fun _ => by simp) ?_
  intro s j ih hs
  obtain ⟨h1, hj⟩ := okS_init hs
  have h2 := ih h1
  have h3 := h.tk hj
  rw [doneD_snoc]
  unfold startD
  simp only [List.length_append, List.length_cons, List.length_nil]
  split
  · omega
  · have := h.mv (h1 (s.length - 1) (by omega)) hj
    omega
end Go.Proofs.Ytejffembnkojjaa
