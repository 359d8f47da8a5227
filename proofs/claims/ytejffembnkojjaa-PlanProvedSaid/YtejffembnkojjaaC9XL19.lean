/- Chapter 6, plain laws, part 19: the law PlanProved. -/
import Derived.Test.YtejffembnkojjaaC9XL18
import Derived.Test.YtejffembnkojjaaC9XL17
import Derived.Test.YtejffembnkojjaaC9XL7
namespace Go.Proofs.Ytejffembnkojjaa
open Go Go.Eng Go.Plan
set_option linter.unusedVariables false
set_option linter.unusedSimpArgs false
set_option maxRecDepth 10000
theorem firstLate_none {r : RadarD} {l : List JobD} (y : List Int) : firstLate r l y = none ↔ anyLate r l y = false := by
  rw [anyLate_first]; cases firstLate r l y <;> simp
theorem firstLate_valid {r : RadarD} {l : List JobD} {y : List Int} {q : Nat} (h : firstLate r l y = some q) : validB r l y (q : Int) = true := by
  unfold firstLate at h
  have h1 := List.mem_of_find?_eq_some h
  have h2 := List.find?_some h
  rw [List.mem_range] at h1
  unfold validB
  rw [inB_iff.2 (by omega), Bool.true_and]
  exact h2
theorem anyM_false {cs : List CutD} (h : anyM cs = false) : ∀ c ∈ cs, 0 ≤ c.2 := by
  intro c hc
  unfold anyM at h
  rw [List.any_eq_false] at h
  have := h c hc
  simp only [decide_eq_true_eq] at this
  omega
theorem anyM_true {cs : List CutD} (h : ∃ c ∈ cs, c.2 < 0) : anyM cs = true := by
  obtain ⟨c, hc, h⟩ := h
  unfold anyM
  rw [List.any_eq_true]
  exact ⟨c, hc, decide_eq_true h⟩
/-- The cuts of a search are accepted. -/
theorem verify_cutL {r : RadarD} {l : List JobD} (hc : checkE r l = 0) {k : Nat} (h1 : 1 ≤ k) (h8 : k ≤ 8) (ha : anyM (cutL l.length (firstLate r l) k []) = false) (h5 : (cutL l.length (firstLate r l) k []).length ≤ 5000) : verifyR r l (cutL l.length (firstLate r l) k []) = 0 := by
  have hl := (checkE_ok hc).2.1
  unfold verifyR
  rw [if_pos hc, if_neg (by omega), if_pos]
  have hne := cutL_ne hl.1 (FL := firstLate r l) k [] h1
  have := cov_cutL hl.1 (FL := firstLate r l) (V := validB r l) (fun y q hq => firstLate_valid hq) k 15 [] [] h1 (by omega) (anyM_false ha)
  rw [List.append_nil] at this
  cases hL : cutL l.length (firstLate r l) k [] with
  | nil => exact absurd hL hne
  | cons c cs =>
    rw [hL] at this
    rw [cov_step, if_pos (by simp), if_neg (by simp)]
    exact this
theorem bestFrom_more {K : List Int → Bool} {N : Nat} : ∀ c n s, bestFrom K N c n = (s, 0) → bestFrom K N (c + 1) n = (s, 0) ∧ K s = true ∧ s ∈ seqs N s.length ∧ n ≤ s.length ∧ s.length < n + c
  | 0, n, s, h => by simp [bestFrom] at h
  | c + 1, n, s, h => by
    rw [bestFrom] at h ⊢
    cases hf : (seqs N n).find? K with
    | some t =>
      rw [hf] at h
      have e : t = s := (Prod.mk.inj h).1
      subst e
      have h1 := List.mem_of_find?_eq_some hf
      have hlen := (seqs_mem _ _ _ h1).1
      exact ⟨rfl, List.find?_some hf, by rw [hlen]; exact h1, by omega, by omega⟩
    | none =>
      rw [hf] at h
      obtain ⟨h1, h2, h3, h4, h5⟩ := bestFrom_more c (n + 1) s h
      exact ⟨h1, h2, h3, by omega, by omega⟩
theorem bestFrom_err {K : List Int → Bool} {N : Nat} : ∀ c n, (∃ s, bestFrom K N c n = (s, 0)) ∨ (bestFrom K N c n = ([], 4) ∧ ∀ m, n ≤ m → m < n + c → ∀ s ∈ seqs N m, K s = false)
  | 0, n => Or.inr ⟨rfl, fun m h1 h2 => by omega⟩
  | c + 1, n => by
    rw [bestFrom]
    cases hf : (seqs N n).find? K with
    | some t => exact Or.inl ⟨t, rfl⟩
    | none =>
      rcases bestFrom_err c (n + 1) with h | ⟨h1, h2⟩
      · exact Or.inl h
      · refine Or.inr ⟨h1, fun m hm1 hm2 s hs => ?_⟩
        by_cases hm : m = n
        · subst hm
          rw [List.find?_eq_none] at hf
          simpa using hf s hs
        · exact h2 m (by omega) (by omega) s hs
theorem neg_all (a : List Int) : (!anyNeg a) = a.all fun x => decide (0 ≤ x) := by
  unfold anyNeg
  induction a with
  | nil => rfl
  | cons x t ih =>
    rw [List.all_cons, List.any_cons, Bool.not_or, ih]
    congr 1
    by_cases h : x < 0
    · rw [decide_eq_true h, decide_eq_false (show ¬ 0 ≤ x by omega)]; rfl
    · rw [decide_eq_false h, decide_eq_true (show 0 ≤ x by omega)]; rfl
theorem lkept_kept {F : Nat} (hF : 100 ≤ F) {r : plan_Radar} {l : List plan_Job} (h : OkL r l) (h6 : l.length ≤ 6) {s : List Int} (hs : okS l.length s) (h1 : 1 ≤ s.length) (h12 : s.length ≤ 12) : law06_kept F r l s = some (keptB (pr r) (dj l) s) := by
  rw [lkept_eq hF r l (by omega), neg_all]
  exact congrArg some (keptJ_eq (h.check h6) (by simpa using hs) h1 h12)
theorem PlanProved_eq {F : Nat} {d : law06_Desk} (hd : OkD d) {most : Int} (h1 : okB most) {rd : List Int} (hrd : ∀ x ∈ rd, okB x) (hF : 1500 ≤ F) (hF2 : d.Jobs.length < F) : law06_PlanProved F d most rd = some true := by
  unfold okB at h1
  rw [law06_PlanProved, guard12]
  by_cases hg : 1 ≤ rd.length ∧ rd.length ≤ 12
  · rw [decide_eq_true hg, Bool.not_true, cond_false]
    obtain ⟨r, hr, hrok, hduty, hturn, hmove, hrays⟩ := Desk_radar_eq (F := F) hd
    obtain ⟨l, hl, hlN, hl1⟩ := Desk_jobs_eq (F := F) hd hF2
    obtain ⟨s, hs, hslen, hsok⟩ := entries_eq (F := F) hrd (by omega) (by omega) (n := l.length) hl1
    have hl4 := hlN.n
    have hL := hlN.okL hrok hl1
    have hs1 : 1 ≤ s.length := by omega
    have hs12 : s.length ≤ 12 := by omega
    have hne : s ≠ [] := by intro e; subst e; simp at hs1
    have hchk := hL.check (by omega)
    have hsok' : okS (dj l).length s := by simpa using hsok
    have hwk := works_at' (F := F) (by omega)
    rw [hr, Option.bind_some, hl, Option.bind_some, ckb (by omega), remb (by omega) (by omega), ckb (by omega), hs, Option.bind_some, Best_eq (by omega), Option.bind_some, Refute_eq (by omega), Option.bind_some]
    obtain ⟨k, hk⟩ : ∃ k : Nat, (1 : Int) + most % 4 = ((k + 1 : Nat) : Int) := ⟨(most % 4).toNat, by omega⟩
    have hk4 : k + 1 ≤ 4 := by omega
    rw [hk]
    have hinB : inB ((k + 1 : Nat) : Int) 1 8 = true := inB_iff.2 (by omega)
    have hinB2 : inB (((k + 1 : Nat) : Int) + 1) 1 8 = true := inB_iff.2 (by omega)
    have hbest : bestR (pr r) (dj l) ((k + 1 : Nat) : Int) = bestFrom (keptB (pr r) (dj l)) l.length (k + 1) 1 := by
      unfold bestR; rw [if_pos hchk, if_pos hinB, Int.toNat_natCast, djl]
    have href : refuteR (pr r) (dj l) ((k + 1 : Nat) : Int) = if anyM (cutL l.length (firstLate (pr r) (dj l)) (k + 1) []) then ([], 4) else if (cutL l.length (firstLate (pr r) (dj l)) (k + 1) []).length > 5000 then ([], 9) else (cutL l.length (firstLate (pr r) (dj l)) (k + 1) [], 0) := by
      unfold refuteR; rw [if_pos hchk, if_pos hinB, Int.toNat_natCast, djl]
    have hcount : (cutL l.length (firstLate (pr r) (dj l)) (k + 1) []).length ≤ 256 := by
      have a := cutL_len hl1 (firstLate (pr r) (dj l)) (k + 1) []
      have b : l.length ^ (k + 1) ≤ 4 ^ (k + 1) := Nat.pow_le_pow_left hl4 _
      have c : 4 ^ (k + 1) ≤ 4 ^ 4 := Nat.pow_le_pow_right (by omega) hk4
      have e : (4 : Nat) ^ 4 = 256 := by decide
      omega
    -- a round that is kept leaves no proof
    have hno : ∀ t : List Int, okS l.length t → t ≠ [] → keptB (pr r) (dj l) t = true → anyM (cutL l.length (firstLate (pr r) (dj l)) (k + 1) []) = true := by
      intro t ht htn htk
      have := kept_cut hL.hr hL.okJ (s := t) (by simpa using ht) htn htk (FL := firstLate (pr r) (dj l)) firstLate_none (k := k + 1) (by omega)
      rw [djl] at this
      exact anyM_true this
    rw [hbest]
    rcases bestFrom_err (K := keptB (pr r) (dj l)) (N := l.length) (k + 1) 1 with ⟨t, ht⟩ | ⟨hnone, hall⟩
    · obtain ⟨b1, b2, b3, b4, b5⟩ := bestFrom_more _ _ _ ht
      have htok := (seqs_mem _ _ _ b3).2
      have htne : t ≠ [] := by intro e; subst e; simp at b4
      have hany := hno t htok htne b2
      rw [ht, href, if_pos hany]
      have hb2 : bestR (pr r) (dj l) (((k + 1 : Nat) : Int) + 1) = (t, 0) := by
        unfold bestR
        rw [if_pos hchk, if_pos hinB2, show (((k + 1 : Nat) : Int) + 1).toNat = k + 1 + 1 by omega, djl]
        exact b1
      have hkt := lkept_kept (F := F) (by omega) hL (by omega) htok (by omega) (by omega)
      rw [b2] at hkt
      have hnum := numbers_self (F := F) (a := t) (by omega) (by omega)
      have hle : decide (((t.length : Nat) : Int) ≤ ((k + 1 : Nat) : Int)) = true := decide_eq_true (by omega)
      rw [bifT (by rfl), ckb (by omega), Best_eq (by omega), Option.bind_some, hb2]
      simp only [hle]
      rw [gdT (g := ((true == true) && true)) rfl, hkt, Option.bind_some]
      simp [gd, hnum, hwk]
    · rw [hnone, bifF (by rfl)]
      have hks : s.length ≤ k + 1 → keptB (pr r) (dj l) s = false := fun hle => hall s.length hs1 (by omega) s (mem_seqs _ _ _ rfl hsok)
      have hkl := lkept_kept (F := F) (by omega) hL (by omega) hsok hs1 hs12
      have hfirst : ∃ b, gd (((decide (((s.length : Nat) : Int) ≤ ((k + 1 : Nat) : Int))) == true && (((([] : List Int), (4 : Int)).2 != 4) == false && true))) (law06_kept F r l s) default = some b ∧ (bif (decide (((s.length : Nat) : Int) ≤ ((k + 1 : Nat) : Int))) then b else false) = false := by
        by_cases hle : s.length ≤ k + 1
        · have hd : decide (((s.length : Nat) : Int) ≤ ((k + 1 : Nat) : Int)) = true := decide_eq_true (by omega)
          rw [hd, hks hle] at *
          exact ⟨false, by rw [gdT (g := ((true == true) && (((4 : Int) != 4) == false && true))) rfl]; exact hkl, rfl⟩
        · have hd : decide (((s.length : Nat) : Int) ≤ ((k + 1 : Nat) : Int)) = false := decide_eq_false (by omega)
          rw [hd]
          exact ⟨default, by rw [gdF (g := ((false == true) && (((4 : Int) != 4) == false && true))) rfl], rfl⟩
      obtain ⟨b, hb1, hb2⟩ := hfirst
      have hcond : (bif ((([] : List Int), (4 : Int)).2 != 4) then true else (bif (decide (((s.length : Nat) : Int) ≤ ((k + 1 : Nat) : Int))) then b else false)) = false := hb2
      rw [hb1, Option.bind_some, bifF hcond, href]
      cases hany : anyM (cutL l.length (firstLate (pr r) (dj l)) (k + 1) []) with
      | true =>
        rw [if_pos rfl]
        simp [gd, hwk]
      | false =>
        rw [if_neg (by simp), if_neg (by omega)]
        have hnk : keptB (pr r) (dj l) s = false := by
          cases hk2 : keptB (pr r) (dj l) s with
          | false => rfl
          | true => rw [hno s hsok hne hk2] at hany; exact absurd hany (by simp)
        have hver : plan_Verify F r l ((cutL l.length (firstLate (pr r) (dj l)) (k + 1) []).map pcut) = some 0 := by
          rw [Verify_eq (by omega), cp_pcut]
          have := verify_cutL (r := pr r) (l := dj l) hchk (k := k + 1) (by omega) (by omega) (by rw [djl]; exact hany) (by rw [djl]; omega)
          rw [djl] at this
          rw [this]
        rw [hnk] at hkl
        rw [bifF (by rfl)]
        simp [gd, hver, hkl, hwk]
  · rw [decide_eq_false hg, Bool.not_false, cond_true, works_at' (by omega)]; rfl
end Go.Proofs.Ytejffembnkojjaa
