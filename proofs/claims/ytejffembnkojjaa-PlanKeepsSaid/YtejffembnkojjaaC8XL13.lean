/- Chapter 6, plain laws, part 13: the law PlanKeeps. -/
import Derived.Test.YtejffembnkojjaaC8XL12
namespace Go.Proofs.Ytejffembnkojjaa
open Go Go.Eng Go.Plan
set_option linter.unusedVariables false
set_option linter.unusedSimpArgs false
set_option maxRecDepth 10000
theorem okS_perm {n : Nat} {s t : List Int} (h : ∀ x, x ∈ t → x ∈ s) (hs : okS n s) : okS n t := okS_mem.2 fun x hx => okS_mem.1 hs x (h x hx)
/-- Slacks do not depend on which element is the first one. -/
theorem slackD_rot {r : RadarD} {l : List JobD} {u v : List Int} (hs : okS l.length (u ++ v)) : slackD r l (v ++ u) = slackD r l (u ++ v) := by
  have hs' : okS l.length (v ++ u) := okS_perm (s := u ++ v) (fun x hx => by simp only [List.mem_append] at hx ⊢; exact hx.symm) hs
  have h1 := slackD_len' r l (v ++ u)
  have h2 := slackD_len' r l (u ++ v)
  apply List.ext_getElem (by omega)
  intro i hi1 hi2
  have e1 : (slackD r l (v ++ u)).getD i 0 = (slackD r l (u ++ v)).getD i 0 := by
    rw [slackD_get' hs' (by omega), slackD_get' hs (by omega), gapD_rot]
  rwa [List.getD_eq_getElem?_getD, List.getD_eq_getElem?_getD, List.getElem?_eq_getElem hi1, List.getElem?_eq_getElem hi2] at e1
theorem numbers_loop' {a : List Int} (h : a.length ≤ 1000000) : ∀ n k : Nat, k ≤ a.length → a.length < n + k → law06_numbers_L2 a a n (k : Int) = some true := by
  intro n
  induction n with
  | zero => intro k h1 h2; omega
  | succ n ih =>
    intro k hk0 hk
    simp only [law06_numbers_L2, law06_numbers_B2, law06_numbers_K1]
    by_cases hc : k < a.length
    · rw [bifT (by simp; omega), getb 0 (by omega), getb 0 (by omega), bifF (by simp), ckb (by omega), show (k : Int) + 1 = ((k + 1 : Nat) : Int) by omega]
      exact ih (k + 1) (by omega) (by omega)
    · rw [bifF (by simp; omega)]
theorem numbers_self' {F : Nat} {a : List Int} (h : a.length < F) (h2 : a.length ≤ 1000000) : law06_numbers F a a = some true := by
  rw [law06_numbers, bifF (by simp)]
  exact numbers_loop' h2 F 0 (by omega) (by omega)
/-- The loop that looks for a job that is missing. -/
theorem there_loop {s : List Int} (h60 : s.length ≤ 1000) (c : Bool) (j : Nat) (hj : j ≤ 100) (k7 : Bool → Int → Option Bool) : ∀ n k : Nat, k ≤ s.length → s.length < n + k → ∀ b, law06_PlanKeeps_L10 s c (j : Int) k7 n b (k : Int) = k7 (c || !(b || decide ((j : Int) ∈ s.drop k))) ((j + 1 : Nat) : Int) := by
  intro n
  induction n with
  | zero => intro k h1 h2; omega
  | succ n ih =>
    intro k hk0 hk b
    simp only [law06_PlanKeeps_L10, law06_PlanKeeps_B10, law06_PlanKeeps_K9, law06_PlanKeeps_K8]
    by_cases hc : k < s.length
    · have hd : s.drop k = s.getD k 0 :: s.drop (k + 1) := by
        rw [List.drop_eq_getElem_cons hc, List.getD_eq_getElem?_getD, List.getElem?_eq_getElem hc]; rfl
      rw [bifT (by simp; omega), getb 0 (by omega), Int.toNat_natCast, ckb (by omega), show (k : Int) + 1 = ((k + 1 : Nat) : Int) by omega, ih (k + 1) (by omega) (by omega), hd]
      congr 1
      have e : (bif b then true else (s.getD k 0 == (j : Int))) = (b || (s.getD k 0 == (j : Int))) := by cases b <;> rfl
      rw [e]
      by_cases hx : s.getD k 0 = (j : Int)
      · rw [hx]; simp
      · have hxb : (s.getD k 0 == (j : Int)) = false := by simpa using hx
        have hm : ((j : Int) ∈ s.getD k 0 :: s.drop (k + 1)) ↔ ((j : Int) ∈ s.drop (k + 1)) := by
          rw [List.mem_cons]; exact ⟨fun h => h.resolve_left (fun e => hx e.symm), Or.inr⟩
        rw [hxb]; simp only [hm, Bool.or_false]
    · rw [bifF (by simp; omega), List.drop_of_length_le (by omega), ckb (by omega), show (j : Int) + 1 = ((j + 1 : Nat) : Int) by omega]
      congr 1
      cases c <;> cases b <;> simp
theorem missing_loop {F : Nat} (hF : 1100 ≤ F) {l : List plan_Job} {s : List Int} (h60 : s.length ≤ 1000) (h7 : l.length ≤ 7) (y : List Int) : ∀ n j : Nat, j ≤ l.length → l.length < n + j → ∀ c, (c = true ∨ ∃ i : Nat, j ≤ i ∧ i < l.length ∧ (i : Int) ∉ s) → law06_PlanKeeps_L7 F l s (y, 23) n c (j : Int) = some true := by
  intro n
  induction n with
  | zero => intro j h1 h2; omega
  | succ n ih =>
    intro j hj0 hj c hcm
    simp only [law06_PlanKeeps_L7, law06_PlanKeeps_B7]
    by_cases hc : j < l.length
    · have := there_loop h60 c j (by omega) (law06_PlanKeeps_L7 F l s (y, 23) n) F 0 (by omega) (by omega) false
      rw [List.drop_zero] at this
      rw [bifT (by simp; omega)]
      refine Eq.trans this (ih (j + 1) (by omega) (by omega) _ ?_)
      rcases hcm with rfl | ⟨i, h1, h2, h3⟩
      · left; rfl
      · by_cases hij : i = j
        · subst hij
          left
          rw [decide_eq_false h3]; cases c <;> rfl
        · right; exact ⟨i, by omega, h2, h3⟩
    · have hct : c = true := by
        rcases hcm with h | ⟨i, h1, h2, _⟩
        · exact h
        · omega
      subst hct
      rw [bifF (by simp; omega), law06_PlanKeeps_K6]
      simp [gd, works_at' (F := F) (by omega)]
theorem wait_loop {F : Nat} (hF : 60 ≤ F) {l : List plan_Job} {a w : List Int} {e : Int} (h7 : l.length ≤ 7) (ha : a.length = l.length) (hw : w.length = l.length) (hev : ∀ k, k < l.length → 0 ≤ (l.getD k default).Every ∧ (l.getD k default).Every ≤ 100000000) (hab : ∀ k, k < l.length → w.getD k 0 = (l.getD k default).Every - a.getD k 0 ∧ 0 ≤ w.getD k 0 ∧ w.getD k 0 ≤ 1000000000000) :
    ∀ n k : Nat, k ≤ l.length → l.length < n + k → law06_PlanKeeps_L4 F l (a, e) w n (k : Int) = some true := by
  intro n
  induction n with
  | zero => intro k h1 h2; omega
  | succ n ih =>
    intro k hk0 hk
    simp only [law06_PlanKeeps_L4, law06_PlanKeeps_B4, law06_PlanKeeps_K3]
    by_cases hc : k < l.length
    · have h1 := hev k hc
      have h2 := hab k hc
      rw [bifT (by simp; omega), getI1 (by omega), Option.bind_some, getb default (by omega), Int.toNat_natCast, getI1 (by omega), Option.bind_some, ckb (by omega), ← h2.1, bifF (by simp), ckb (by omega), show (k : Int) + 1 = ((k + 1 : Nat) : Int) by omega]
      exact ih (k + 1) (by omega) (by omega)
    · rw [bifF (by simp; omega), works_at' hF]; rfl
theorem rep_loop {F : Nat} {r : plan_Radar} {l : List plan_Job} {s : List Int} (h12 : s.length ≤ 12) (y : List Int × Int) {c : Nat} (hc : c ≤ 5) : ∀ n k : Nat, k ≤ c → c < n + k → law06_PlanKeeps_L5 F r l s y (c : Int) n (k : Int) (rp s k) = law06_PlanKeeps_K2 F r l y (rp s c) := by
  intro n
  induction n with
  | zero => intro k h1 h2; omega
  | succ n ih =>
    intro k hk0 hk
    simp only [law06_PlanKeeps_L5, law06_PlanKeeps_B5]
    by_cases hk2 : k < c
    · have hl := rp_len s k
      have hm : k * s.length ≤ 5 * 12 := Nat.mul_le_mul (by omega) h12
      rw [bifT (by simp; omega), apdb (by omega), ckb (by omega), show (k : Int) + 1 = ((k + 1 : Nat) : Int) by omega]
      exact ih (k + 1) (by omega) (by omega)
    · rw [bifF (by simp; omega), show k = c by omega]
theorem PlanKeeps_eq {F : Nat} {d : law06_Desk} (hd : OkD d) {rd : List Int} (hrd : ∀ x ∈ rd, okB x) {times shift : Int} (h1 : okB times) (h2 : okB shift) (hF : 1200 ≤ F) (hF2 : d.Jobs.length < F) : law06_PlanKeeps F d rd times shift = some true := by
  unfold okB at h1 h2
  rw [law06_PlanKeeps, guard12]
  by_cases hg : 1 ≤ rd.length ∧ rd.length ≤ 12
  · rw [decide_eq_true hg, Bool.not_true, cond_false]
    obtain ⟨r, hr, hrok, hduty, hturn, hmove, hrays⟩ := Desk_radar_eq (F := F) hd
    obtain ⟨l, hl, hlN, hl1⟩ := Desk_jobs_eq (F := F) hd hF2
    obtain ⟨s, hs, hslen, hsok⟩ := entries_eq (F := F) hrd (by omega) (by omega) (n := l.length) hl1
    have hl4 := hlN.n
    have hL := hlN.okL hrok hl1
    have hS : OkS r l := ⟨hL, hlN.j, hmove, hturn, hrays⟩
    have hs1 : 1 ≤ s.length := by omega
    have hs12 : s.length ≤ 12 := by omega
    have hne : s ≠ [] := by intro e; subst e; simp at hs1
    have hsok' : okS (dj l).length s := by simpa using hsok
    have hk0 := Int.emod_nonneg shift (show (s.length : Int) ≠ 0 by omega)
    have hk1 := Int.emod_lt_of_pos shift (show (0 : Int) < (s.length : Int) by omega)
    rw [hr, Option.bind_some, hl, Option.bind_some, hs, Option.bind_some, Judge_eq (by omega), Option.bind_some, ckb (by omega), remb (by omega) (by omega)]
    generalize hk : (shift % (s.length : Int)).toNat = k
    have hkl : k < s.length := by omega
    have c1 : cutI s (shift % (s.length : Int)) ((s.length : Nat) : Int) = some (s.drop k) := by
      rw [cutI, if_pos (by omega), hk, Int.toNat_natCast, List.take_of_length_le (by simp)]
    have c2 : cutI s (0 : Int) (shift % (s.length : Int)) = some (s.take k) := by
      rw [cutI, if_pos (by omega), hk]; simp
    rw [c1, c2, Option.bind_some, Option.bind_some, apdb (by simp; omega), List.nil_append, apdb (by simp; omega), Judge_eq (by omega), Option.bind_some]
    have hsrot : okS l.length (s.drop k ++ s.take k) := okS_perm (s := s) (fun x hx => by
      rcases List.mem_append.1 hx with h | h
      · exact List.mem_of_mem_drop h
      · exact List.mem_of_mem_take h) hsok
    have hrl : (s.drop k ++ s.take k).length = s.length := by simp; omega
    have e1 := judge_valid hL (by omega) hsok hs1 hs12
    have e2 := judge_valid hL (by omega) hsrot (by omega) (by omega)
    have hmem : ∀ j : Int, j ∈ s.drop k ++ s.take k ↔ j ∈ s := fun j => by
      conv => rhs; rw [← List.take_append_drop k s]
      simp only [List.mem_append]
      exact Or.comm
    simp only [hmem] at e2
    have hrotS : slackD (pr r) (dj l) (s.drop k ++ s.take k) = slackD (pr r) (dj l) s := by
      have := slackD_rot (r := pr r) (l := dj l) (u := s.take k) (v := s.drop k) (by rw [List.take_append_drop]; exact hsok')
      rwa [List.take_append_drop] at this
    have hJ : judgeL (pr r) (dj l) (s.drop k ++ s.take k) = judgeL (pr r) (dj l) s := by
      unfold judgeL; rw [e1, e2, hrotS]
    have hJE : judgeE (pr r) (dj l) (s.drop k ++ s.take k) = judgeE (pr r) (dj l) s := by rw [e1, e2]
    rw [hJ, hJE]
    have hlenJ : (judgeL (pr r) (dj l) s).length ≤ 6 := by
      unfold judgeL
      split
      · rw [slackD_len', djl]; omega
      · simp
    have hb : (judgeE (pr r) (dj l) s != judgeE (pr r) (dj l) s) = false := by simp
    have hnum := numbers_self' (F := F) (a := judgeL (pr r) (dj l) s) (by omega) (by omega)
    simp only [hb, gd, beq_self_eq_true, Bool.and_true, cond_true, hnum, Option.bind_some]
    rw [bifF (c := bif false then true else !true) rfl]
    by_cases hx : ∃ j : Nat, j < l.length ∧ (j : Int) ∉ s
    · rw [if_pos hx] at e1
      rw [e1, bifT (by rfl)]
      obtain ⟨j, hj1, hj2⟩ := hx
      exact missing_loop (by omega) (by omega) (by omega) _ F 0 (by omega) (by omega) false (Or.inr ⟨j, by omega, hj1, hj2⟩)
    · rw [if_neg hx] at e1
      rw [e1, bifF (by rfl), law06_PlanKeeps_K1, ckb (by omega), remb (by omega) (by omega), ckb (by omega)]
      have hJL : judgeL (pr r) (dj l) s = slackD (pr r) (dj l) s := by unfold judgeL; rw [if_pos e1]
      rw [hJL]
      obtain ⟨c, hc⟩ : ∃ c : Nat, (2 : Int) + times % 4 = ((c + 2 : Nat) : Int) := ⟨(times % 4).toNat, by omega⟩
      have hc5 : c + 2 ≤ 5 := by omega
      have hrep := rep_loop (F := F) (r := r) (l := l) hs12 (slackD (pr r) (dj l) s, 0) hc5 F 0 (by omega) (by omega)
      rw [hc]
      refine Eq.trans hrep ?_
      have hrl2 := rp_len s (c + 2)
      have hm : (c + 2) * s.length ≤ 5 * 12 := Nat.mul_le_mul hc5 hs12
      have hrok2 := rp_ok hsok (c + 2)
      have hrok2' : okS (dj l).length (rp s (c + 2)) := by simpa using hrok2
      rw [law06_PlanKeeps_K2, lbegins_eq (by omega) hL hrok2 (by omega), Option.bind_some]
      have hsl := slackD_len' (pr r) (dj l) s
      rw [djl] at hsl
      rw [bifF (by simp [hsl])]
      obtain ⟨w, hw, hwl, hwg⟩ := waits_eq (F := F) (l := l) (by omega) (s := rp s (c + 2)) (at_ := atD (pr r) (dj l) (rp s (c + 2))) (B := 200000000000) (by omega) hrok2 (atD_len _ _ _) (by omega) (fun x hx => by
        obtain ⟨i, hi, rfl⟩ := List.mem_iff_getElem.1 hx
        have := atD_bd hL.hr hL.okJ _ hrok2' i
        rw [List.getD_eq_getElem?_getD, List.getElem?_eq_getElem hi] at this
        simp only [Option.getD_some] at this
        omega) (by omega)
      rw [hw, Option.bind_some]
      refine wait_loop (by omega) (by omega) hsl hwl (fun i hi => ?_) (fun i hi => ?_) F 0 (by omega) (by omega)
      · have := (jobErr_ok (hL.get hi)).2.2.1
        simp only [pj] at this
        omega
      · have hg1 := hwg i hi
        rw [wait_rp hne] at hg1
        have hsg := slackD_get' (r := pr r) hsok' (j := i) (by simpa using hi)
        rw [← every_get hi] at hsg
        have hgb := gap2_bd hL.hr hL.okJ hsok' hs1 (by omega) (dj l).length s.length
        have := hgb.1 i
        have e3 := gapsD_get (pr r) (dj l) s (dj l).length hsok' i (by simpa using hi)
        unfold gapsD at e3
        rw [hg1, hsg]
        omega
  · rw [decide_eq_false hg, Bool.not_false, cond_true, works_at' (by omega)]; rfl
end Go.Proofs.Ytejffembnkojjaa
