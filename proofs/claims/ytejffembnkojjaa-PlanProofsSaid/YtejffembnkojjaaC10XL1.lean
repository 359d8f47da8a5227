/- Chapter 6, plain laws, part 1: checks and times on the plain programs. -/
import Derived.Test.YtejffembnkojjaaC10XD
import Derived.Test.YtejffembnkojjaaC10PlanN
import Derived.Test.YtejffembnkojjaaC10XL0
namespace Go.Proofs.Ytejffembnkojjaa
open Go Go.Eng Go.Plan
set_option linter.unusedVariables false
set_option linter.unusedSimpArgs false
set_option maxRecDepth 10000
theorem ckb {β : Type} {x : Int} {f : Int → Option β} (h : -9000000000000000000 ≤ x ∧ x ≤ 9000000000000000000) : (ck x).bind f = f x := by
  rw [ck, if_pos (by omega)]; rfl
theorem getb {α β : Type} {l : List α} {i : Int} {f : α → Option β} (d : α) (h : 0 ≤ i ∧ i < l.length) : (getI l i).bind f = f (l.getD i.toNat d) := by
  rw [getI, if_pos h.1, List.getD_eq_getElem?_getD, List.getElem?_eq_getElem (by omega)]; rfl
theorem setb {α β : Type} {l : List α} {i : Int} {x : α} {f : List α → Option β} (h : 0 ≤ i ∧ i < l.length) : (setI l i x).bind f = f (l.set i.toNat x) := by
  rw [setI, if_pos h]; rfl
theorem apdb {α β : Type} {l k : List α} {B : Nat} {f : List α → Option β} (h : (l.length + k.length) * B ≤ 140737488355328 ∧ l.length + k.length ≤ 9223372036854775807) : (apd B l k).bind f = f (l ++ k) := by
  rw [apd, if_pos h]; rfl
theorem quob {β : Type} {x y : Int} {f : Int → Option β} (hx : 0 ≤ x ∧ x ≤ 9000000000000000000) (hy : 0 < y) : (quoC x y).bind f = f (x / y) := by
  have h1 := Int.ediv_nonneg hx.1 (Int.le_of_lt hy)
  have h2 := Int.ediv_le_self y hx.1
  rw [quoC, if_neg (by omega), Int.tdiv_eq_ediv_of_nonneg hx.1, ckb (by omega)]
theorem remb {β : Type} {x y : Int} {f : Int → Option β} (hx : 0 ≤ x) (hy : 0 < y) : (remC x y).bind f = f (x % y) := by
  rw [remC, if_neg (by omega), Int.tmod_eq_emod_of_nonneg hx]; rfl
theorem remb' {β : Type} {x y : Int} {f : Int → Option β} (hy : 0 < y) : (remC x y).bind f = f (x.tmod y) := by
  rw [remC, if_neg (by omega)]; rfl
theorem bifT {α : Type} {c : Bool} {x y : α} (h : c = true) : (bif c then x else y) = x := by rw [h]; rfl
theorem bifF {α : Type} {c : Bool} {x y : α} (h : c = false) : (bif c then x else y) = y := by rw [h]; rfl
/-! ### What the types mean -/
def pt (t : pulse_Train) : TrainD := ⟨t.Lambda, t.Kind, t.First, t.Second, t.Count⟩
def pj (j : plan_Job) : JobD := ⟨j.Tilt, pt j.Train, j.Width, j.Every⟩
def pr (r : plan_Radar) : RadarD := ⟨r.Rays, r.Turn, r.Move, r.Duty⟩
def rt (t : ref02_Train) : TrainD := ⟨t.Lambda, t.Kind, t.First, t.Second, t.Count⟩
def rj (j : ref06_Job) : JobD := ⟨j.Tilt, rt j.Train, j.Width, j.Every⟩
def rr (r : ref06_Radar) : RadarD := ⟨r.Rays, r.Turn, r.Move, r.Duty⟩
theorem pin (n a b : Int) : plan_in n a b = inB n a b := by
  simp only [plan_in, inB, Bool.cond_eq_ite]; by_cases h : a ≤ n <;> simp [h]
theorem pwi (n a b : Int) : pulse_within n a b = inB n a b := by
  simp only [pulse_within, inB, Bool.cond_eq_ite]; by_cases h : a ≤ n <;> simp [h]
theorem pulse_CheckTrain_eq (F : Nat) (t : pulse_Train) : pulse_CheckTrain F t = some (trainErr (pt t)) := by
  rw [pulse_CheckTrain]
  simp only [pulse_CheckTrain_K1, pulse_CheckTrain_K2, pwi]
  rw [remb' (by omega)]
  by_cases h1 : t.Kind = 1
  · cases ha : inB t.Lambda 10000 1000000 <;> cases hb : inB t.First 200 5000 <;> cases hc : inB t.Count 2 64 <;> by_cases hd : t.Second = 0 <;> simp [trainErr, trainOk, kOk, pt, h1, ha, hb, hc, hd, Bool.cond_eq_ite]
  by_cases h2 : t.Kind = 2
  · cases ha : inB t.Lambda 10000 1000000 <;> cases hb : inB t.First 200 5000 <;> cases hc : inB t.Count 4 64 <;> cases hd : inB t.Second 200 5000 <;> by_cases he : t.Count.tmod 2 = 0 <;> by_cases hg : t.First < t.Second <;> simp [trainErr, trainOk, kOk, pt, h2, ha, hb, hc, hd, he, hg, Bool.cond_eq_ite]
  by_cases h3 : t.Kind = 3
  · cases ha : inB t.Lambda 10000 1000000 <;> cases hb : inB t.First 200 5000 <;> cases hc : inB t.Count 3 64 <;> cases hd : inB t.Second 200 5000 <;> by_cases hg : t.First < t.Second <;> simp [trainErr, trainOk, kOk, pt, h3, ha, hb, hc, hd, hg, Bool.cond_eq_ite]
  · simp [trainErr, kOk, pt, h1, h2, h3, Bool.cond_eq_ite]
theorem getD_map_pj {l : List plan_Job} {k : Nat} (h : k < l.length) (d : plan_Job) : pj (l.getD k d) = (l.map pj).getD k default := (map_getD' pj h).symm
theorem getD_map_rj {l : List ref06_Job} {k : Nat} (h : k < l.length) (d : ref06_Job) : rj (l.getD k d) = (l.map rj).getD k default := (map_getD' rj h).symm
theorem plan_Check_loop (F : Nat) (l : List plan_Job) (hl : l.length ≤ 6) : ∀ n k : Nat, k ≤ l.length → l.length < n + k → plan_Check_L2 F l n (k : Int) = some (firstErr ((l.map pj).drop k)) := by
  intro n
  induction n with
  | zero => intro k hk hk2; omega
  | succ n ih =>
    intro k hk0 hk
    simp only [plan_Check_L2, plan_Check_B2, plan_Check_K1]
    by_cases hc : k < l.length
    · rw [bifT (by simp; omega), getb default (by omega), pulse_CheckTrain_eq, Option.bind_some]
      rw [firstErr_drop (by simpa using hc), Int.toNat_natCast, ← getD_map_pj hc default]
      generalize l.getD k default = j
      rw [ckb (by omega), show (k : Int) + 1 = ((k + 1 : Nat) : Int) by omega, ih (k + 1) (by omega) (by omega)]
      simp only [pin, jobErr, pj]
      by_cases e : trainErr (pt j.Train) = 0 <;> by_cases ha : inB j.Tilt 0 256 = true <;> by_cases hb : inB j.Width 1 1000 = true <;> by_cases hc : inB j.Every 1 100000000 = true <;> simp [e, ha, hb, hc, Bool.cond_eq_ite]
    · rw [bifF (by simp; omega), firstErr_done (by simp; omega)]
theorem plan_Check_eq {F : Nat} (hF : 8 ≤ F) (r : plan_Radar) (l : List plan_Job) : plan_Check F r l = some (checkE (pr r) (l.map pj)) := by
  rw [plan_Check]
  simp only [pin, checkE, radarOk, pr, List.length_map]
  by_cases hl : inB l.length 1 6 = true
  · have hl' := inB_iff.1 hl
    have := plan_Check_loop F l (by omega) F 0 (by omega) (by omega)
    simp only [Int.natCast_zero, List.drop_zero] at this
    rw [this]
    simp only [hl]
    by_cases ha : inB r.Rays 1 360 = true <;> by_cases hb : inB r.Turn 0 600000 = true <;> by_cases hc : inB r.Move 0 10000 = true <;> by_cases hd : inB r.Duty 1 1000 = true <;> simp [ha, hb, hc, hd, Bool.cond_eq_ite]
  · simp only [hl]
    by_cases ha : inB r.Rays 1 360 = true <;> by_cases hb : inB r.Turn 0 600000 = true <;> by_cases hc : inB r.Move 0 10000 = true <;> by_cases hd : inB r.Duty 1 1000 = true <;> simp [ha, hb, hc, hd, Bool.cond_eq_ite]
/-! ### Times -/
theorem mx_if (a b : Int) : (if b > a then b else a) = mx a b := rfl
theorem plan_up_eq {F : Nat} {a b : Int} (ha : 0 ≤ a ∧ a ≤ 8000000000000000000) (hb : 1 ≤ b ∧ b ≤ 1000) : plan_up F a b = some (upD a b) := by
  rw [plan_up, ckb (by omega), ckb (by omega), quob (by omega) (by omega)]; rfl
theorem plan_time_eq {F : Nat} {r : plan_Radar} {j : plan_Job} (hr : radarOk (pr r) = true) (hj : jobErr (pj j) = 0) : plan_Radar_time F r j = some (timeJ (pr r) (pj j)) := by
  obtain ⟨h1, h2, h3, hk, ht⟩ := jobErr_ok hj
  have hb := trainOk_bd hk ht
  have hrb := radarOk_bd hr
  have hp := pulses_bd hk ht
  have m1 := mul_bd (a := 100 * j.Train.Count) (b := j.Width) (A := 6400) (B := 1000) (by simp only [pj, pt] at hb; omega) (by simp only [pj] at h2; omega)
  have u1 := upD_bd (a := 100 * j.Train.Count * j.Width) (A := 6400000) (by omega) hrb.2.2.2
  have x1 := mx_spec (pulses (pt j.Train)) (upD (100 * j.Train.Count * j.Width) r.Duty)
  have m2 := mul_bd (a := r.Rays) (b := mx (pulses (pt j.Train)) (upD (100 * j.Train.Count * j.Width) r.Duty)) (A := 360) (B := 6400999) (by simp only [pr] at hrb; omega) (by simp only [pr, pj] at u1 hp; omega)
  simp only [pr, pj, pt] at hrb hb h2 hp u1
  have m3 := mul_bd (a := j.Train.Count) (b := j.Train.First) (A := 64) (B := 5000) (by omega) (by omega)
  have m4 := mul_bd (a := j.Train.Count / 2) (b := j.Train.First + j.Train.Second) (A := 32) (B := 10000) (by omega) (by omega)
  have m5 := mul_bd (a := (j.Train.Count + 1) / 2) (b := j.Train.First) (A := 32) (B := 5000) (by omega) (by omega)
  have m6 := mul_bd (a := j.Train.Count / 2) (b := j.Train.Second) (A := 32) (B := 5000) (by omega) (by omega)
  have hk' := kOk_iff.1 hk
  simp only [pj, pt] at hk'
  unfold timeJ
  simp only [pr, pj]
  rw [plan_Radar_time]
  rcases hk' with hk' | hk' | hk'
  · have ep : pulses (pt j.Train) = j.Train.Count * j.Train.First := by simp [pulses, pt, hk']
    rw [bifF (by simp [hk']), bifT (by simp [hk']), ckb (by omega), ckb (by omega), plan_Radar_time_1, ckb (by omega), Option.bind_some, plan_up_eq (by omega) (by omega), Option.bind_some, mx_if, ← ep, ckb (by omega), plan_up_eq (by omega) (by omega), Option.bind_some, mx_if]
    rfl
  · have ep : pulses (pt j.Train) = j.Train.Count / 2 * (j.Train.First + j.Train.Second) := by simp [pulses, pt, hk']
    rw [bifF (by simp [hk']), bifF (by simp [hk']), bifT (by simp [hk']), ckb (by omega), ckb (by omega), plan_Radar_time_2, quob (by omega) (by omega), ckb (by omega), ckb (by omega), Option.bind_some, plan_up_eq (by omega) (by omega), Option.bind_some, mx_if, ← ep, ckb (by omega), plan_up_eq (by omega) (by omega), Option.bind_some, mx_if]
    rfl
  · have ep : pulses (pt j.Train) = (j.Train.Count + 1) / 2 * j.Train.First + j.Train.Count / 2 * j.Train.Second := by simp [pulses, pt, hk']
    rw [bifF (by simp [hk']), bifF (by simp [hk']), bifF (by simp [hk']), bifT (by simp [hk']), ckb (by omega), ckb (by omega), plan_Radar_time_3, ckb (by omega), quob (by omega) (by omega), ckb (by omega), quob (by omega) (by omega), ckb (by omega), ckb (by omega), Option.bind_some, plan_up_eq (by omega) (by omega), Option.bind_some, mx_if, ← ep, ckb (by omega), plan_up_eq (by omega) (by omega), Option.bind_some, mx_if]
    rfl
end Go.Proofs.Ytejffembnkojjaa
