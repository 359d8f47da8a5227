/- Chapter 6, plain laws, part 9: the law PlanTime. -/
import Derived.Test.YtejffembnkojjaaC11XL8
namespace Go.Proofs.Ytejffembnkojjaa
open Go Go.Eng Go.Plan
set_option linter.unusedVariables false
set_option linter.unusedSimpArgs false
set_option maxRecDepth 10000
theorem upD_le {x b b' : Int} (hx : 0 ≤ x) (hb : 1 ≤ b) (hbb : b ≤ b') : upD x b' ≤ upD x b := by
  have hq : x ≤ b * upD x b := by
    unfold upD
    have h1 := Int.mul_ediv_add_emod (x + b - 1) b
    have h2 := Int.emod_lt_of_pos (x + b - 1) (show 0 < b by omega)
    omega
  have hq0 : 0 ≤ upD x b := Int.ediv_nonneg (by omega) (by omega)
  have hm : b * upD x b ≤ b' * upD x b := Int.mul_le_mul_of_nonneg_right hbb hq0
  have : upD x b' < upD x b + 1 := by
    show (x + b' - 1) / b' < upD x b + 1
    refine Int.ediv_lt_of_lt_mul (by omega) ?_
    rw [Int.add_mul, Int.mul_comm (upD x b)]
    omega
  omega
theorem upD_mono {x y b : Int} (hxy : x ≤ y) (hb : 1 ≤ b) : upD x b ≤ upD y b := Int.ediv_le_ediv (by omega) (by omega)
theorem timeJ_mono {r r' : RadarD} {j : JobD} (hr : radarOk r = true) (hj : jobErr j = 0) (h1 : r'.rays = r.rays) (h2 : r'.turn ≤ r.turn) (h3 : r.duty ≤ r'.duty) : timeJ r' j ≤ timeJ r j := by
  obtain ⟨_, hw, _, hk, ht⟩ := jobErr_ok hj
  have hb := trainOk_bd hk ht
  have hrb := radarOk_bd hr
  have m1 := mul_bd (a := 100 * j.train.count) (b := j.width) (A := 6400) (B := 1000) (by omega) (by omega)
  have u1 := upD_le (x := 100 * j.train.count * j.width) (b := r.duty) (b' := r'.duty) m1.1 (by omega) h3
  unfold timeJ
  rw [h1]
  have x1 := mx_spec (pulses j.train) (upD (100 * j.train.count * j.width) r.duty)
  have x2 := mx_spec (pulses j.train) (upD (100 * j.train.count * j.width) r'.duty)
  have hm : r.rays * mx (pulses j.train) (upD (100 * j.train.count * j.width) r'.duty) ≤ r.rays * mx (pulses j.train) (upD (100 * j.train.count * j.width) r.duty) := Int.mul_le_mul_of_nonneg_left (by omega) (by omega)
  have u2 := upD_mono (b := 1000) hm (by omega)
  have x3 := mx_spec r.turn (upD (r.rays * mx (pulses j.train) (upD (100 * j.train.count * j.width) r.duty)) 1000)
  have x4 := mx_spec r'.turn (upD (r.rays * mx (pulses j.train) (upD (100 * j.train.count * j.width) r'.duty)) 1000)
  omega
theorem moveJ_mono {r r' : RadarD} {a b : JobD} (h : r'.move ≤ r.move) : moveJ r' a b ≤ moveJ r a b := by
  unfold moveJ
  have x := mx_spec (a.tilt - b.tilt) (b.tilt - a.tilt)
  exact Int.mul_le_mul_of_nonneg_right h (by omega)
/-- Slacks are not less where gaps are not longer. -/
theorem slack_le {r r' : plan_Radar} {l l' : List plan_Job} {s : List Int} (h : OkL r l) (h' : OkL r' l') (hl : l'.length = l.length) (hs : okS l.length s)
    (hg : ∀ j : Int, gapD (pr r') (dj l') s j ≤ gapD (pr r) (dj l) s j) (he : ∀ k, k < l.length → (l.getD k default).Every ≤ (l'.getD k default).Every) :
    ∀ k, k < l.length → (slackD (pr r) (dj l) s).getD k 0 ≤ (slackD (pr r') (dj l') s).getD k 0 := by
  intro k hk
  rw [slackD_get' (by simpa using hs) (by simpa using hk), slackD_get' (by rw [djl, hl]; exact hs) (by rw [djl]; omega), ← every_get hk, ← every_get (by omega)]
  have := hg k
  have := he k hk
  omega
theorem time_loop {F : Nat} (hF : 60 ≤ F) {a b c : List Int} {x y z : Int} (h1 : b.length = a.length) (h2 : c.length = a.length) (h60 : a.length ≤ 100) (hb : ∀ k, k < a.length → a.getD k 0 ≤ b.getD k 0) (hc : ∀ k, k < a.length → a.getD k 0 ≤ c.getD k 0) :
    ∀ n k : Nat, k ≤ a.length → a.length < n + k → law06_PlanTime_L2 F (a, x) (b, y) (c, z) n (k : Int) = some true := by
  intro n
  induction n with
  | zero => intro k h1 h2; omega
  | succ n ih =>
    intro k hk0 hk
    simp only [law06_PlanTime_L2, law06_PlanTime_B2, law06_PlanTime_K1]
    by_cases hcc : k < a.length
    · have e1 := hb k hcc
      have e2 := hc k hcc
      have d1 : decide (b.getD k 0 < a.getD k 0) = false := decide_eq_false (by omega)
      have d2 : decide (c.getD k 0 < a.getD k 0) = false := decide_eq_false (by omega)
      have g1 : ∀ l : List Int, k < l.length → getI l (k : Int) = some (l.getD k 0) := fun l hl => by
        rw [getI, if_pos (by omega), Int.toNat_natCast, List.getD_eq_getElem?_getD, List.getElem?_eq_getElem hl]; rfl
      rw [bifT (by simp; omega), g1 b (by omega), g1 a hcc, g1 c (by omega), Option.bind_some, Option.bind_some, d1]
      simp only [gd, beq_self_eq_true, Bool.and_true, cond_true, Option.bind_some, d2]
      rw [bifF rfl, ckb (by omega), show (k : Int) + 1 = ((k + 1 : Nat) : Int) by omega]
      exact ih (k + 1) (by omega) (by omega)
    · rw [bifF (by simp; omega), works_at' hF]; rfl
theorem getD_set_ne {α : Type} {l : List α} {i k : Nat} {x d : α} (h : i ≠ k) : (l.set i x).getD k d = l.getD k d := by simp [List.getD_eq_getElem?_getD, List.getElem?_set, h]
theorem getD_set_eq {α : Type} {l : List α} {i : Nat} {x d : α} (h : i < l.length) : (l.set i x).getD i d = x := by simp [List.getD_eq_getElem?_getD, List.getElem?_set, h]
theorem PlanTime_eq {F : Nat} {d : law06_Desk} (hd : OkD d) {rd : List Int} (hrd : ∀ x ∈ rd, okB x) {who more turn move duty : Int} (h1 : okB who) (h2 : okB more) (h3 : okB turn) (h4 : okB move) (h5 : okB duty) (hF : 200 ≤ F) (hF2 : d.Jobs.length < F) :
    law06_PlanTime F d rd who more turn move duty = some true := by
  unfold okB at h1 h2 h3 h4 h5
  rw [law06_PlanTime, guard12]
  by_cases hg : 1 ≤ rd.length ∧ rd.length ≤ 12
  · rw [decide_eq_true hg, Bool.not_true, cond_false]
    obtain ⟨r, hr, hrok, hduty, hturn, hmove⟩ := Desk_radar_eq (F := F) hd
    obtain ⟨l, hl, hlN, hl1⟩ := Desk_jobs_eq (F := F) hd hF2
    obtain ⟨s, hs, hslen, hsok⟩ := entries_eq (F := F) hrd (by omega) (by omega) (n := l.length) hl1
    have hl4 := hlN.n
    have hL := hlN.okL hrok hl1
    have hrb := radarOk_bd hrok
    simp only [pr] at hrb
    -- the job that has more time
    have hi0 := Int.emod_nonneg who (show (l.length : Int) ≠ 0 by omega)
    have hi1 := Int.emod_lt_of_pos who (show (0 : Int) < (l.length : Int) by omega)
    have hmem : l.getD (who % (l.length : Int)).toNat default ∈ l := by
      rw [List.getD_eq_getElem?_getD, List.getElem?_eq_getElem (by omega)]; exact List.getElem_mem _
    have hjob := hlN.j _ hmem
    have hev := (jobErr_ok hjob.1).2.2.1
    simp only [pj] at hev
    rw [hr, Option.bind_some, hl, Option.bind_some, hs, Option.bind_some, Judge_eq (by omega), Option.bind_some, apdb (by simp; omega), List.nil_append]
    rw [ckb (by omega), remb (by omega) (by omega), getb default (by omega), ckb (by omega), ckb (by omega), getb default (by omega), setb (by omega), ckb (by omega), ckb (by omega), ckb (by omega), ckb (by omega), ckb (by omega), ckb (by omega)]
    generalize hu : l.getD (who % (l.length : Int)).toNat default = u at hjob hev
    generalize hi : (who % (l.length : Int)).toNat = i at hu
    have hil : i < l.length := by omega
    generalize hj' : plan_Job.mk u.Tilt u.Train u.Width (u.Every + more) = u'
    have hu'ok : jobErr (pj u') = 0 := by
      rw [← hj']
      have := hjob.1
      have hin : inB (u.Every + more) 1 100000000 = true := inB_iff.2 (by omega)
      have hin2 : inB u.Every 1 100000000 = true := inB_iff.2 (by omega)
      unfold jobErr at this ⊢
      simp only [pj, hin, hin2] at this ⊢
      exact this
    have hE : OkL r (l.set i u') := ⟨hrok, fun j hj => by
      rcases List.mem_or_eq_of_mem_set hj with h | h
      · exact (hlN.j j h).1
      · subst h; exact hu'ok, by simp; omega, by simp; omega⟩
    generalize hq : plan_Radar.mk r.Rays (if r.Turn - turn > 0 then r.Turn - turn else 0) (if r.Move - move > 0 then r.Move - move else 0) (if r.Duty + duty < 1000 then r.Duty + duty else 1000) = q
    have hq1 : (pr q).rays = (pr r).rays := by rw [← hq]; rfl
    have hq2 : 0 ≤ (pr q).turn ∧ (pr q).turn ≤ (pr r).turn := by rw [← hq]; simp only [pr]; split <;> omega
    have hq3 : 0 ≤ (pr q).move ∧ (pr q).move ≤ (pr r).move := by rw [← hq]; simp only [pr]; split <;> omega
    have hq4 : (pr r).duty ≤ (pr q).duty ∧ (pr q).duty ≤ 1000 := by rw [← hq]; simp only [pr]; split <;> omega
    have hqok : radarOk (pr q) = true := by
      have := radarOk_bd hrok
      simp only [radarOk, Bool.and_eq_true, inB_iff]; omega
    have hQ : OkL q l := ⟨hqok, hL.hl, hL.h1, hL.h6⟩
    rw [Judge_eq (by omega), Option.bind_some, Judge_eq (by omega), Option.bind_some]
    have hs1 : 1 ≤ s.length := by omega
    have hs12 : s.length ≤ 12 := by omega
    have hsE : okS (l.set i u').length s := by simpa using hsok
    have e1 := judge_valid hL (by omega) hsok hs1 hs12
    have e2 := judge_valid hE (by simp; omega) hsE hs1 hs12
    have e3 := judge_valid hQ (by omega) hsok hs1 hs12
    rw [List.length_set] at e2
    simp only [e1, e2, e3]
    unfold judgeL
    rw [e1, e2, e3]
    by_cases hx : ∃ j : Nat, j < l.length ∧ (j : Int) ∉ s
    · simp only [if_pos hx]
      rw [if_neg (by decide), if_neg (by decide), if_neg (by decide), bifF (by rfl)]
      exact time_loop (by omega) rfl rfl (by simp) (fun k hk => by simp at hk) (fun k hk => by simp at hk) F 0 (by simp) (by simp; omega)
    · simp only [if_neg hx, if_true]
      have hlen1 := slackD_len' (pr r) (dj l) s
      have hlen2 := slackD_len' (pr r) (dj (l.set i u')) s
      have hlen3 := slackD_len' (pr q) (dj l) s
      rw [djl] at hlen1 hlen2 hlen3
      rw [List.length_set] at hlen2
      rw [hlen1, hlen2, hlen3, bifF (by simp)]
      have hmemok : ∀ a ∈ s, 0 ≤ a ∧ a < l.length := okS_mem.1 hsok
      have hpj : ∀ k, k < l.length → (pj ((l.set i u').getD k default)).tilt = (pj (l.getD k default)).tilt ∧ timeJ (pr r) (pj ((l.set i u').getD k default)) = timeJ (pr r) (pj (l.getD k default)) ∧ (l.getD k default).Every ≤ ((l.set i u').getD k default).Every := by
        intro k hk
        by_cases hik : i = k
        · subst hik
          rw [getD_set_eq hil, hu, ← hj']
          exact ⟨rfl, rfl, by show u.Every ≤ u.Every + more; omega⟩
        · rw [getD_set_ne hik]; exact ⟨rfl, rfl, Int.le_refl _⟩
      refine time_loop (by omega) (by omega) (by omega) (by omega) (fun k hk => ?_) (fun k hk => ?_) F 0 (by omega) (by omega)
      · refine slack_le hL hE (by simp) hsok (fun j => ?_) (fun k hk => (hpj k hk).2.2) k (by omega)
        refine gap_mono hs1 (fun a ha => ?_) (fun a ha b hb => ?_) j
        · have := hmemok a ha
          unfold tk
          rw [← getD_map_pj (by simp; omega) default, ← getD_map_pj (by omega) default, (hpj a.toNat (by omega)).2.1]
          exact Int.le_refl _
        · have h1 := hmemok a ha
          have h2 := hmemok b hb
          unfold mv moveJ
          rw [← getD_map_pj (by simp; omega) default, ← getD_map_pj (by simp; omega) default, ← getD_map_pj (by omega) default, ← getD_map_pj (by omega) default, (hpj a.toNat (by omega)).1, (hpj b.toNat (by omega)).1]
          exact Int.le_refl _
      · refine slack_le hL hQ rfl hsok (fun j => ?_) (fun k hk => Int.le_refl _) k (by omega)
        refine gap_mono hs1 (fun a ha => ?_) (fun a ha b hb => ?_) j
        · have := hmemok a ha
          unfold tk
          rw [← getD_map_pj (by omega) default]
          exact timeJ_mono hrok (hL.get (by omega)) hq1 hq2.2 hq4.1
        · exact moveJ_mono hq3.2
  · rw [decide_eq_false hg, Bool.not_false, cond_true, works_at' (by omega)]; rfl
end Go.Proofs.Ytejffembnkojjaa
