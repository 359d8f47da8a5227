/- Chapter 6, plain laws, part 8: what is meant by numbers (radars, jobs, rounds of the laws outright). -/
import Derived.Test.YtejffembnkojjaaC10XL3
import Derived.Test.YtejffembnkojjaaC10PlanU
namespace Go.Proofs.Ytejffembnkojjaa
open Go Go.Eng Go.Plan
set_option linter.unusedVariables false
set_option linter.unusedSimpArgs false
set_option maxRecDepth 10000
theorem works_at' {F : Nat} (hF : 60 ≤ F) : law06_works F = some true := by rw [show F = (F - 60) + 60 by omega]; exact works_eval _
theorem ckB {β : Type} {x : Int} {f : Int → Option β} (h : -9223372036854775808 ≤ x ∧ x ≤ 9223372036854775807) : (ck x).bind f = f x := by
  rw [ck, if_pos h]; rfl
def okB (x : Int) : Prop := 0 ≤ x ∧ x ≤ 255
structure OkW (w : law06_Wish) : Prop where
  t : okB w.Tilt
  c : okB w.Count
  k : okB w.Kind
  wd : okB w.Width
  f : okB w.First
  e : 0 ≤ w.Every ∧ w.Every ≤ 65535
structure OkD (d : law06_Desk) : Prop where
  r : okB d.Rays
  t : okB d.Turn
  m : okB d.Move
  u : okB d.Duty
  j : ∀ w ∈ d.Jobs, OkW w
  n : d.Jobs.length ≤ 9223372036854775807
theorem Desk_radar_eq {F : Nat} {d : law06_Desk} (h : OkD d) : ∃ r, law06_Desk_radar F d = some r ∧ radarOk (pr r) = true ∧ r.Duty ≤ 766 ∧ r.Turn ≤ 29 ∧ r.Move ≤ 3 ∧ r.Rays ≤ 8 := by
  obtain ⟨h1, h2, h3, h4, _, _⟩ := h
  unfold okB at h1 h2 h3 h4
  rw [law06_Desk_radar, ckb (by omega), remb (by omega) (by omega), ckb (by omega), ckb (by omega), remb (by omega) (by omega), ckb (by omega), remb (by omega) (by omega), ckb (by omega), ckb (by omega), ckb (by omega)]
  refine ⟨_, rfl, ?_, ?_, ?_, ?_, ?_⟩
  · simp only [radarOk, pr, Bool.and_eq_true, inB_iff]; omega
  · show 1 + d.Duty * 3 ≤ 766; omega
  · show d.Turn % 30 ≤ 29; omega
  · show d.Move % 4 ≤ 3; omega
  · show 1 + d.Rays % 8 ≤ 8; omega
/-- A job by numbers. -/
def JobN (j : plan_Job) : Prop := jobErr (pj j) = 0 ∧ j.Every ≤ 400 ∧ j.Train.Count ≤ 10 ∧ j.Train.First ≤ 2750 ∧ j.Train.Second ≤ 2850 ∧ j.Width ≤ 256 ∧ j.Tilt ≤ 11
theorem Wish_job_eq {F : Nat} {w : law06_Wish} (h : OkW w) : ∃ j, law06_Wish_job F w = some j ∧ JobN j := by
  obtain ⟨h1, h2, h3, h4, h5, h6⟩ := h
  unfold okB at h1 h2 h3 h4 h5
  rw [law06_Wish_job, ckb (by omega), remb (by omega) (by omega), ckb (by omega), ckb (by omega), ckb (by omega), ckb (by omega), ckb (by omega), remb (by omega) (by omega), ckb (by omega), ckb (by omega)]
  have hk : w.Kind % 3 = 0 ∨ w.Kind % 3 = 1 ∨ w.Kind % 3 = 2 := by omega
  simp only [law06_Wish_job_K1, law06_Wish_job_K2]
  rcases hk with hk | hk | hk
  · rw [hk, bifF (by rfl), bifF (by rfl), ckb (by omega), remb (by omega) (by omega), ckb (by omega), ckb (by omega), ckb (by omega), remb (by omega) (by omega), ckb (by omega)]
    refine ⟨_, rfl, ?_, ?_⟩
    rotate_left
    · dsimp only; omega
    have e1 : inB (w.Tilt % 12) 0 256 = true := inB_iff.2 (by omega)
    have e2 : inB (1 + w.Width) 1 1000 = true := inB_iff.2 (by omega)
    have e3 : inB (1 + w.Every % 400) 1 100000000 = true := inB_iff.2 (by omega)
    have e4 : inB (200 + 10 * w.First) 200 5000 = true := inB_iff.2 (by omega)
    have e5 : inB (4 + 2 * (w.Count % 4)) 2 64 = true := inB_iff.2 (by omega)
    simp [jobErr, pj, pt, trainErr, kOk, trainOk, e1, e2, e3, e4, e5, show inB (100000 : Int) 10000 1000000 = true from rfl]
  · rw [hk, bifT (by rfl), ckb (by omega), bifF (by rfl), ckb (by omega), remb (by omega) (by omega), ckb (by omega), ckb (by omega), ckb (by omega), remb (by omega) (by omega), ckb (by omega)]
    refine ⟨_, rfl, ?_, ?_⟩
    rotate_left
    · dsimp only; omega
    have e1 : inB (w.Tilt % 12) 0 256 = true := inB_iff.2 (by omega)
    have e2 : inB (1 + w.Width) 1 1000 = true := inB_iff.2 (by omega)
    have e3 : inB (1 + w.Every % 400) 1 100000000 = true := inB_iff.2 (by omega)
    have e4 : inB (200 + 10 * w.First) 200 5000 = true := inB_iff.2 (by omega)
    have e5 : inB (4 + 2 * (w.Count % 4)) 4 64 = true := inB_iff.2 (by omega)
    have e6 : inB (200 + 10 * w.First + 100) 200 5000 = true := inB_iff.2 (by omega)
    have e7 : 200 + 10 * w.First < 200 + 10 * w.First + 100 := by omega
    have e8 : (4 + 2 * (w.Count % 4)).tmod 2 = 0 := by rw [Int.tmod_eq_emod_of_nonneg (by omega)]; omega
    simp [jobErr, pj, pt, trainErr, kOk, trainOk, e1, e2, e3, e4, e5, e6, e7, e8, show inB (100000 : Int) 10000 1000000 = true from rfl]
  · rw [hk, bifT (by rfl), ckb (by omega), bifT (by rfl), ckb (by omega), ckb (by omega), remb (by omega) (by omega), ckb (by omega), ckb (by omega), ckb (by omega), remb (by omega) (by omega), ckb (by omega)]
    refine ⟨_, rfl, ?_, ?_⟩
    rotate_left
    · dsimp only; omega
    have e1 : inB (w.Tilt % 12) 0 256 = true := inB_iff.2 (by omega)
    have e2 : inB (1 + w.Width) 1 1000 = true := inB_iff.2 (by omega)
    have e3 : inB (1 + w.Every % 400) 1 100000000 = true := inB_iff.2 (by omega)
    have e4 : inB (200 + 10 * w.First) 200 5000 = true := inB_iff.2 (by omega)
    have e5 : inB (4 + 2 * (w.Count % 4) - 1) 3 64 = true := inB_iff.2 (by omega)
    have e6 : inB (200 + 10 * w.First + 100) 200 5000 = true := inB_iff.2 (by omega)
    have e7 : 200 + 10 * w.First < 200 + 10 * w.First + 100 := by omega
    simp [jobErr, pj, pt, trainErr, kOk, trainOk, e1, e2, e3, e4, e5, e6, e7, show inB (100000 : Int) 10000 1000000 = true from rfl]
/-- Jobs of a desk by numbers. -/
structure OkN (l : List plan_Job) : Prop where
  j : ∀ x ∈ l, JobN x
  n : l.length ≤ 4
theorem Desk_jobs_K {F : Nat} {l : List plan_Job} (h : OkN l) : ∃ l', law06_Desk_jobs_K1 F l = some l' ∧ OkN l' ∧ 1 ≤ l'.length := by
  rw [law06_Desk_jobs_K1]
  by_cases hl : l.length = 0
  · obtain ⟨j, h1, h2⟩ := Wish_job_eq (F := F) (w := ⟨0, 0, 0, 0, 0, 0⟩) ⟨⟨by decide, by decide⟩, ⟨by decide, by decide⟩, ⟨by decide, by decide⟩, ⟨by decide, by decide⟩, ⟨by decide, by decide⟩, ⟨by decide, by decide⟩⟩
    rw [bifT (by simp; exact List.length_eq_zero_iff.1 hl), h1, Option.bind_some, apdb (by simp; omega)]
    refine ⟨_, rfl, ⟨fun x hx => ?_, by simp; omega⟩, by simp⟩
    rw [List.length_eq_zero_iff.1 hl] at hx
    simp at hx
    subst hx; exact h2
  · rw [bifF (by simp; intro e; subst e; simp at hl)]
    exact ⟨l, rfl, h, by omega⟩
theorem Desk_jobs_loop {F : Nat} {d : law06_Desk} (h : OkD d) : ∀ n k : Nat, k ≤ d.Jobs.length → d.Jobs.length < n + k → ∀ l, OkN l → (l.length ≤ k) → (4 ≤ k ∨ l.length = k) → ∃ l', law06_Desk_jobs_L2 F d n l (k : Int) = some l' ∧ OkN l' ∧ 1 ≤ l'.length := by
  have hn := h.n
  intro n
  induction n with
  | zero => intro k h1 h2; omega
  | succ n ih =>
    intro k hk0 hk l hl hlk hor
    simp only [law06_Desk_jobs_L2, law06_Desk_jobs_B2, law06_Desk_jobs_K3]
    by_cases hc : k < d.Jobs.length
    · have hm : d.Jobs.getD k default ∈ d.Jobs := by rw [List.getD_eq_getElem?_getD, List.getElem?_eq_getElem hc]; exact List.getElem_mem hc
      rw [bifT (by simp; omega), getb default (by omega), Int.toNat_natCast]
      by_cases h4 : k < 4
      · obtain ⟨j, h1, h2⟩ := Wish_job_eq (F := F) (h.j _ hm)
        have hl4 := hl.n
        rw [bifT (by simp; omega), h1, Option.bind_some, apdb (by simp; omega), ckB (by omega), show (k : Int) + 1 = ((k + 1 : Nat) : Int) by omega]
        refine ih (k + 1) (by omega) (by omega) _ ⟨fun x hx => ?_, by simp; omega⟩ (by simp; omega) (by right; simp; omega)
        rcases List.mem_append.1 hx with hx | hx
        · exact hl.j x hx
        · rw [List.mem_singleton] at hx; subst hx; exact h2
      · rw [bifF (by simp; omega), ckB (by omega), show (k : Int) + 1 = ((k + 1 : Nat) : Int) by omega]
        exact ih (k + 1) (by omega) (by omega) l hl (by omega) (by omega)
    · rw [bifF (by simp; omega)]
      exact Desk_jobs_K hl
theorem Desk_jobs_eq {F : Nat} {d : law06_Desk} (h : OkD d) (hF : d.Jobs.length < F) : ∃ l, law06_Desk_jobs F d = some l ∧ OkN l ∧ 1 ≤ l.length :=
  Desk_jobs_loop h F 0 (by omega) (by omega) [] ⟨by simp, by simp⟩ (by simp) (by right; simp)
/-- What the laws outright begin with. -/
theorem OkN.okL {r : plan_Radar} {l : List plan_Job} (hr : radarOk (pr r) = true) (h : OkN l) (h1 : 1 ≤ l.length) : OkL r l := ⟨hr, fun j hj => (h.j j hj).1, h1, by have := h.n; omega⟩
theorem firstErr_zero : ∀ {l : List JobD}, (∀ j ∈ l, jobErr j = 0) → firstErr l = 0
  | [], _ => rfl
  | j :: l, h => by rw [firstErr, if_pos (h j (by simp))]; exact firstErr_zero (fun x hx => h x (by simp [hx]))
theorem OkL.check {r : plan_Radar} {l : List plan_Job} (h : OkL r l) (h6 : l.length ≤ 6) : checkE (pr r) (dj l) = 0 := by
  have h1 := h.h1
  unfold checkE
  rw [if_pos h.hr, if_pos (inB_iff.2 (by rw [djl]; omega))]
  refine firstErr_zero fun j hj => ?_
  obtain ⟨x, hx, rfl⟩ := List.mem_map.1 hj
  exact h.hl x hx
theorem upD_mono' {x y b : Int} (hxy : x ≤ y) (hb : 1 ≤ b) : upD x b ≤ upD y b := Int.ediv_le_ediv (by omega) (by omega)
end Go.Proofs.Ytejffembnkojjaa
