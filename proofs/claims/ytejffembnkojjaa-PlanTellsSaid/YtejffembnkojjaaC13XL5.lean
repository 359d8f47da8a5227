/- Chapter 6, plain laws, part 5: what is done at a time; the law PlanJudges. -/
import Derived.Test.YtejffembnkojjaaC13XL4
namespace Go.Proofs.Ytejffembnkojjaa
open Go Go.Eng Go.Plan
set_option linter.unusedVariables false
set_option linter.unusedSimpArgs false
set_option maxRecDepth 10000
theorem emod_le' {t a : Int} (ht : 0 ≤ t) (ha : 1 ≤ a) : t % a ≤ t := by
  have h1 := Int.mul_ediv_add_emod t a
  have h2 := Int.mul_nonneg (a := a) (b := t / a) (by omega) (Int.ediv_nonneg ht (by omega))
  omega
theorem cmp_less (a b : Int) : cmp_Less_int a b = decide (a < b) := by simp [cmp_Less_int, cmp_isNaN_int]
/-- The place of a number in a rising list. -/
structure Low (a : List Int) (t : Int) (i : Nat) : Prop where
  le : i ≤ a.length
  lt : ∀ k, k < i → a.getD k 0 < t
  ge : ∀ k, i ≤ k → k < a.length → t ≤ a.getD k 0
theorem search_loop {a : List Int} {t : Int} (h60 : a.length ≤ 1000) (hr : ∀ i k, i < k → k < a.length → a.getD i 0 < a.getD k 0) {p : Nat} (hp : Low a t p) :
    ∀ n i j : Nat, i ≤ p → p ≤ j → j ≤ a.length → j < n + i → slices_BinarySearch_int_int_L2 a t n (i : Int) (j : Int) = some ((p : Int), decide (p < a.length ∧ a.getD p 0 = t)) := by
  intro n
  induction n with
  | zero => intro i j h1 h2 h3 h4; omega
  | succ n ih =>
    intro i j h1 h2 h3 h4
    simp only [slices_BinarySearch_int_int_L2, slices_BinarySearch_int_int_B2, slices_BinarySearch_int_int_K1]
    by_cases hc : i < j
    · have e1 : IntKind.u64.wrap ((i : Int) + (j : Int)) = ((i + j : Nat) : Int) := by
        have : (IntKind.u64.wrap ((i : Int) + (j : Int))) = ((i : Int) + (j : Int)) % 18446744073709551616 := rfl
        rw [this]; omega
      have e2 : Int.fdiv ((i + j : Nat) : Int) 2 = (((i + j) / 2 : Nat) : Int) := by
        rw [Int.fdiv_eq_ediv_of_nonneg _ (by omega)]; omega
      rw [bifT (by simp; omega), ckb (by omega), e1, e2, ckb (by omega), getb 0 (by omega), Int.toNat_natCast, cmp_less]
      by_cases hl : a.getD ((i + j) / 2) 0 < t
      · rw [bifT (by simp only [decide_eq_true_eq]; exact hl), ckb (by omega), show (((i + j) / 2 : Nat) : Int) + 1 = (((i + j) / 2 + 1 : Nat) : Int) by omega]
        refine ih _ _ ?_ h2 h3 (by omega)
        rcases Nat.lt_or_ge ((i + j) / 2) p with h | h
        · omega
        · have := hp.ge _ h (by omega); omega
      · rw [bifF (by simp only [decide_eq_false_iff_not]; exact hl)]
        refine ih _ _ h1 ?_ (by omega) (by omega)
        rcases Nat.lt_or_ge ((i + j) / 2) p with h | h
        · have := hp.lt _ h; omega
        · omega
    · have hi : i = p := by omega
      subst hi
      rw [bifF (by simp; omega)]
      by_cases hlt : i < a.length
      · have d1 : decide ((i : Int) < ((a.length : Nat) : Int)) = true := by simp; omega
        have g1 : getI a (i : Int) = some (a.getD i 0) := by
          have := getb (f := some) (l := a) (i := (i : Int)) 0 (by omega)
          rw [Int.toNat_natCast] at this
          rw [← this]; cases getI a (i : Int) <;> rfl
        rw [d1, g1]
        by_cases he : a.getD i 0 = t
        · have hb : (a.getD i 0 == t) = true := by rw [he]; simp
          have hd : decide (i < a.length ∧ a.getD i 0 = t) = true := decide_eq_true ⟨hlt, he⟩
          rw [hd]
          simp only [gd, beq_self_eq_true, Bool.and_true, cond_true, Option.bind_some, hb]
          rfl
        · have hb : (a.getD i 0 == t) = false := by simpa using he
          have hd : decide (i < a.length ∧ a.getD i 0 = t) = false := decide_eq_false (fun h => he h.2)
          rw [hd]
          simp only [gd, beq_self_eq_true, Bool.and_true, cond_true, Option.bind_some, hb, slices_isNaN_int, bne_self_eq_false, cond_false]
      · have d1 : decide ((i : Int) < ((a.length : Nat) : Int)) = false := by simp; omega
        have hd : decide (i < a.length ∧ a.getD i 0 = t) = false := decide_eq_false (fun h => hlt h.1)
        rw [hd, d1]
        simp [gd]
theorem _root_.Go.Plan.At.low {a : List Int} {t : Int} {e : Nat} (h : At a t e) (hr : ∀ i k, i < k → k < a.length → a.getD i 0 < a.getD k 0) : Low a t (if a.getD e 0 = t then e else e + 1) := by
  have hl := h.lt
  have hle := h.le
  split
  · rename_i he
    exact ⟨by omega, fun k hk => by have := hr k e hk hl; omega, fun k hk hk2 => by
      rcases Nat.lt_or_eq_of_le hk with h2 | h2
      · have := h.gt k h2 hk2; omega
      · subst h2; omega⟩
  · rename_i he
    exact ⟨by omega, fun k hk => by
      rcases Nat.lt_or_ge k e with h2 | h2
      · have := hr k e h2 hl; omega
      · have : k = e := by omega
        subst this; omega, fun k hk hk2 => by have := h.gt k (by omega) hk2; omega⟩
theorem at_exists {a : List Int} {t : Int} (h1 : 1 ≤ a.length) (h0 : a.getD 0 0 ≤ t) (hr : ∀ i k, i < k → k < a.length → a.getD i 0 < a.getD k 0) : ∃ e, At a t e := by
  have : ∀ n, n < a.length → (∃ e, e ≤ n ∧ a.getD e 0 ≤ t ∧ ∀ i, e < i → i ≤ n → t < a.getD i 0) := by
    intro n
    induction n with
    | zero => intro _; exact ⟨0, Nat.le_refl _, h0, fun i h1 h2 => by omega⟩
    | succ n ih =>
      intro hn
      obtain ⟨e, he, hle, hgt⟩ := ih (by omega)
      by_cases hc : a.getD (n + 1) 0 ≤ t
      · exact ⟨n + 1, Nat.le_refl _, hc, fun i h1 h2 => by omega⟩
      · refine ⟨e, by omega, hle, fun i h1 h2 => ?_⟩
        rcases Nat.lt_or_eq_of_le h2 with h3 | h3
        · exact hgt i h1 (by omega)
        · subst h3; omega
  obtain ⟨e, he, hle, hgt⟩ := this (a.length - 1) (by omega)
  exact ⟨e, ⟨by omega, hle, fun i h1 h2 => hgt i h1 (by omega)⟩⟩
/-- What is done at a time, or the error. -/
def whereR (r : RadarD) (l : List JobD) (s : List Int) (t : Int) (x : Int × Int × Int) : Prop :=
  if judgeE r l s = 0 then (if inB t 0 4294967296 then ∃ e, At (atD r l s) (t % allD r l s) e ∧ x = whereD r l s (t % allD r l s) e else x = (0, 0, 3)) else x = (0, 0, judgeE r l s)
theorem judge_ok {r : RadarD} {l : List JobD} {s : List Int} (h : judgeE r l s = 0) : checkE r l = 0 ∧ (1 ≤ s.length ∧ s.length ≤ 12) ∧ okS l.length s ∧ (gapsD r l s l.length).contains 0 = false := by
  unfold judgeE at h
  by_cases h1 : checkE r l = 0
  · rw [if_pos h1] at h
    by_cases h2 : inB s.length 1 12 = true
    · rw [if_pos h2] at h
      by_cases h3 : inS l.length s = true
      · rw [if_pos h3] at h
        by_cases h4 : (gapsD r l s l.length).contains 0 = true
        · rw [if_pos h4] at h; omega
        · have := inB_iff.1 h2
          exact ⟨h1, by omega, inS_iff.1 h3, by simpa using h4⟩
      · rw [if_neg h3] at h; omega
    · rw [if_neg h2] at h; omega
  · rw [if_neg h1] at h; exact absurd h h1
theorem rays_bd {a b c : Int} (ha : 0 ≤ a ∧ a ≤ 4000000000) (hb : 1 ≤ b ∧ b ≤ 360) : 0 ≤ a * b ∧ a * b ≤ 4000000000 * 360 := mul_bd (by omega) (by omega)
theorem where_K {r : plan_Radar} {l : List plan_Job} (h : OkL r l) {s : List Int} (hs : okS l.length s) (h60 : s.length ≤ 60) {t : Int} {e : Nat} (ht : 0 ≤ t ∧ t ≤ 4294967296) (he : At (atD (pr r) (dj l) s) t e) (x : List Int × Int) :
    plan_Where_K1 r (lineP r l s, x) t (e : Int) = some (whereD (pr r) (dj l) s t e) := by
  have hs' : okS (dj l).length s := by simpa using hs
  have hal := atD_len (pr r) (dj l) s
  have hlt := he.lt
  have hle := he.le
  have hx := hs e (by omega)
  have hat := atD_bd h.hr h.okJ s hs' e
  have htk := tk_bd h.hr h.okJ (j := s.getD e 0) (by simpa using hx)
  have hpos := tk_pos h.hr h.okJ (j := s.getD e 0) (by simpa using hx)
  have hrb := radarOk_bd h.hr
  simp only [pr] at hrb
  rw [plan_Where_K1]
  simp only [show (lineP r l s).at_ = atD (pr r) (dj l) s from rfl, show (lineP r l s).jobs = s from rfl, show (lineP r l s).desk = some (deskP r l) from rfl]
  rw [getb 0 (by omega), Int.toNat_natCast, ckb (by omega), Option.bind_some, getb 0 (by omega), Int.toNat_natCast, getb 0 (by simpa [deskP] using hx), takes_get hx]
  unfold whereD
  by_cases hc : t - (atD (pr r) (dj l) s).getD e 0 ≥ tk (pr r) (dj l) (s.getD e 0)
  · rw [bifT (by simp only [decide_eq_true_eq]; exact hc), if_pos hc]
  · have hm := rays_bd (a := t - (atD (pr r) (dj l) s).getD e 0) (b := r.Rays) (c := 0) (by omega) hrb.1
    rw [bifF (by simp only [decide_eq_false_iff_not]; exact hc), if_neg hc, ckb (by omega), quob (by omega) (by omega)]
    rfl
theorem Where_eq {F : Nat} (hF : 20 ≤ F) (r : plan_Radar) (l : List plan_Job) (s : List Int) (t : Int) : ∃ x, plan_Where F r l s t = some x ∧ whereR (pr r) (dj l) s t x := by
  rw [plan_Where, judged_eq hF, Option.bind_some]
  unfold whereR judgedR
  by_cases h : judgeE (pr r) (dj l) s = 0
  · simp only [if_pos h]
    obtain ⟨hc, h12, hs', _⟩ := judge_ok h
    have hL := OkL.of hc
    have hs : okS l.length s := by simpa using hs'
    rw [bifF (by rfl : ((0 : Int) != 0) = false), pin]
    by_cases hin : inB t 0 4294967296 = true
    · have hin' := inB_iff.1 hin
      have hall := all_eq (F := F) hL hs (by omega) (by omega)
      have hal := allD_ge hL.hr hL.okJ hs' (by omega)
      have halb := allD_bd hL.hr hL.okJ hs' (by omega)
      have hm1 := Int.emod_nonneg t (show allD (pr r) (dj l) s ≠ 0 by omega)
      have hm2 : t % allD (pr r) (dj l) s ≤ t := emod_le' hin'.1 (by omega)
      have hrise := (atD_rise hL.hr hL.okJ s hs').2
      have hlen := atD_len (pr r) (dj l) s
      rw [bifF (by rw [hin]; rfl), show plan_line.mk (lineP r l s).desk (lineP r l s).jobs (lineP r l s).at_ (lineP r l s).done = lineP r l s from rfl, hall, Option.bind_some, remb hin'.1 (by omega)]
      simp only [if_pos hin]
      obtain ⟨e, he⟩ := at_exists (a := atD (pr r) (dj l) s) (t := t % allD (pr r) (dj l) s) (by omega) (by rw [atD_zero s (by omega)]; exact hm1) (fun i k h1 h2 => hrise i k h1 (by omega))
      refine ⟨whereD (pr r) (dj l) s (t % allD (pr r) (dj l) s) e, ?_, e, he, rfl⟩
      have hlow := he.low (fun i k h1 h2 => hrise i k h1 (by omega))
      have hsr := search_loop (a := atD (pr r) (dj l) s) (by omega) (fun i k h1 h2 => hrise i k h1 (by omega)) hlow F 0 (atD (pr r) (dj l) s).length (by omega) hlow.le (Nat.le_refl _) (by omega)
      have hlt := he.lt
      have hle := he.le
      have hK := where_K hL hs (by omega) (t := t % allD (pr r) (dj l) s) (by omega) he (slackD (pr r) (dj l) s, 0)
      replace hsr : slices_BinarySearch_int_int F (atD (pr r) (dj l) s) (t % allD (pr r) (dj l) s) = _ := hsr
      rw [show (lineP r l s).at_ = atD (pr r) (dj l) s from rfl, hsr, Option.bind_some]
      by_cases hq : (atD (pr r) (dj l) s).getD e 0 = t % allD (pr r) (dj l) s
      · rw [if_pos hq, show decide (e < (atD (pr r) (dj l) s).length ∧ (atD (pr r) (dj l) s).getD e 0 = t % allD (pr r) (dj l) s) = true from decide_eq_true ⟨hlt, hq⟩]
        exact hK
      · rw [if_neg hq, show decide (e + 1 < (atD (pr r) (dj l) s).length ∧ (atD (pr r) (dj l) s).getD (e + 1) 0 = t % allD (pr r) (dj l) s) = false from decide_eq_false (fun h => by have := he.gt (e + 1) (by omega) h.1; omega)]
        show ((ck (((e + 1 : Nat) : Int) - 1)).bind fun x52 => _) = _
        rw [ckb (by omega), show ((e + 1 : Nat) : Int) - 1 = (e : Int) by omega]
        exact hK
    · rw [bifT (by simp [hin])]
      simp only [if_neg hin]
      exact ⟨_, rfl, rfl⟩
  · simp only [if_neg h]
    rw [bifT (by simpa using h)]
    exact ⟨_, rfl, rfl⟩
/-! ### The law -/
end Go.Proofs.Ytejffembnkojjaa
