/- Chapter 6, plain laws, part 17: the law PlanMore. -/
import Derived.Test.YtejffembnkojjaaC12XL15
import Derived.Test.YtejffembnkojjaaC12XL12
namespace Go.Proofs.Ytejffembnkojjaa
open Go Go.Eng Go.Plan
set_option linter.unusedVariables false
set_option linter.unusedSimpArgs false
set_option linter.unnecessarySimpa false
set_option maxRecDepth 10000
/-! ### The sequence is made -/
def mkK (s : List Int) (N i k : Nat) : List Int := if k ≤ s.length + i then (rp s 4).take k else (rp s 4).take (s.length + i + 1) ++ [(N : Int)] ++ ((rp s 4).take k).drop (s.length + i + 1)
theorem mkK_end {s : List Int} {N i : Nat} (h1 : 1 ≤ s.length) (hi : i < s.length) : mkK s N i (4 * s.length) = insS s N (s.length + i + 1) := by
  unfold mkK insS
  rw [if_neg (by omega), List.take_of_length_le (l := rp s 4) (i := 4 * s.length) (by rw [rp_len]; omega)]
theorem mkK_step {s : List Int} {N i k : Nat} (h1 : 1 ≤ s.length) (hi : i < s.length) (hk : k < 4 * s.length) : mkK s N i (k + 1) = mkK s N i k ++ [s.getD (k % s.length) 0] ++ if k = s.length + i then [(N : Int)] else [] := by
  have hR := rp_len s 4
  have hg := rp_get h1 4 k hk
  have ht : (rp s 4).take (k + 1) = (rp s 4).take k ++ [s.getD (k % s.length) 0] := by rw [← hg, take_snoc (by omega)]
  unfold mkK
  by_cases c1 : k < s.length + i
  · rw [if_pos (by omega), if_pos (by omega), if_neg (by omega), ht]; simp
  · by_cases c2 : k = s.length + i
    · rw [if_neg (by omega), if_pos (by omega), if_pos c2, c2]
      rw [← c2, ht, List.drop_of_length_le (by simp; omega)]; simp
    · rw [if_neg (by omega), if_neg (by omega), if_neg c2, ht, List.drop_append_of_le_length (by simp; omega)]
      simp
theorem mkS_len {s : List Int} {N m : Nat} (hm : m ≤ 4 * s.length) : (insS s N m).length = 4 * s.length + 1 := by
  unfold insS
  simp [rp_len]; omega
theorem mkK_len {s : List Int} {N i k : Nat} (h12 : s.length ≤ 12) (hi : i < s.length) : (mkK s N i k).length ≤ 50 := by
  unfold mkK
  have := rp_len s 4
  split <;> simp <;> omega
theorem mkS_ok {n : Nat} {s : List Int} {m : Nat} (hs : okS n s) : okS (n + 1) (insS s n m) := okS_mem.2 fun x hx => by
  have hR := okS_mem.1 (rp_ok hs 4)
  unfold insS at hx
  simp only [List.mem_append, List.mem_singleton] at hx
  rcases hx with (hx | hx) | hx
  · have := hR x (List.mem_of_mem_take hx); omega
  · omega
  · have := hR x (List.mem_of_mem_drop hx); omega
theorem more_inner {s : List Int} {l : List plan_Job} (h1 : 1 ≤ s.length) (h12 : s.length ≤ 12) {k : Nat} (hk : k < s.length) {c : Nat} (hc4 : c < 4) (k4 : Int → List Int → Option Bool) :
    ∀ n m : Nat, m ≤ s.length → s.length < n + m → law06_PlanMore_1_L6 (k : Int) s l (c : Int) k4 n (m : Int) (mkK s l.length k (c * s.length + m)) = k4 ((c + 1 : Nat) : Int) (mkK s l.length k ((c + 1) * s.length)) := by
  intro n
  induction n with
  | zero => intro m h1 h2; omega
  | succ n ih =>
    intro m hm0 hm
    have hlen := mkK_len (N := l.length) (k := c * s.length + m) h12 hk
    simp only [law06_PlanMore_1_L6, law06_PlanMore_1_B6, law06_PlanMore_1_K7, law06_PlanMore_1_K5]
    have hcm : (c + 1) * s.length = c * s.length + s.length := Nat.succ_mul c s.length
    have hc3 : (c + 1) * s.length ≤ 4 * s.length := Nat.mul_le_mul_right _ (by omega)
    by_cases hc : m < s.length
    · have hstep := mkK_step (N := l.length) h1 hk (k := c * s.length + m) (by omega)
      have hmod : (c * s.length + m) % s.length = m := by rw [Nat.add_comm, Nat.add_mul_mod_self_right, Nat.mod_eq_of_lt hc]
      rw [hmod] at hstep
      have hn := ih (m + 1) (by omega) (by omega)
      rw [show c * s.length + (m + 1) = c * s.length + m + 1 by omega] at hn
      rw [bifT (by simp; omega), getb 0 (by omega), Int.toNat_natCast, apdb (by simp; omega)]
      by_cases he : c = 1 ∧ m = k
      · obtain ⟨rfl, rfl⟩ := he
        rw [if_pos (by omega)] at hstep
        rw [bifT (by simp), apdb (by simp only [List.length_append, List.length_cons, List.length_nil]; omega), ckb (by omega), show (m : Int) + 1 = ((m + 1 : Nat) : Int) by omega, ← hstep]
        exact hn
      · have hne : ¬ (c * s.length + m = s.length + k) := by
          intro h
          apply he
          rcases Nat.lt_or_ge c 1 with h0 | h0
          · have : c = 0 := by omega
            subst this; omega
          · rcases Nat.lt_or_ge c 2 with h2 | h2
            · have : c = 1 := by omega
              subst this; omega
            · have : 2 * s.length ≤ c * s.length := Nat.mul_le_mul_right _ h2
              omega
        rw [if_neg hne, List.append_nil] at hstep
        have hcond : (bif ((c : Int) == 1) then ((m : Int) == (k : Int)) else false) = false := by
          by_cases h1 : (c : Int) = 1
          · have : ((c : Int) == 1) = true := by rw [h1]; rfl
            rw [this, cond_true]
            have : ¬ (m : Int) = (k : Int) := fun h => he ⟨by omega, by omega⟩
            simpa using this
          · have : ((c : Int) == 1) = false := by simpa using h1
            rw [this]; rfl
        rw [bifF hcond, ckb (by omega), show (m : Int) + 1 = ((m + 1 : Nat) : Int) by omega, ← hstep]
        exact hn
    · rw [bifF (by simp; omega), ckb (by omega), show (c : Int) + 1 = ((c + 1 : Nat) : Int) by omega, hcm, show m = s.length by omega]
theorem more_outer {F : Nat} (hF : 100 ≤ F) {s : List Int} {l L : List plan_Job} {r : plan_Radar} {t : Int} (h1 : 1 ≤ s.length) (h12 : s.length ≤ 12) {k : Nat} (hk : k < s.length) :
    ∀ n c : Nat, c ≤ 4 → 4 < n + c → law06_PlanMore_1_L4 F (k : Int) s l r L t n (c : Int) (mkK s l.length k (c * s.length)) = law06_PlanMore_1_K1 F (k : Int) s l r L t (insS s l.length (s.length + k + 1)) := by
  intro n
  induction n with
  | zero => intro c h1 h2; omega
  | succ n ih =>
    intro c hc0 hc
    simp only [law06_PlanMore_1_L4, law06_PlanMore_1_B4]
    by_cases hcc : c < 4
    · have := more_inner (l := l) h1 h12 hk hcc (law06_PlanMore_1_L4 F (k : Int) s l r L t n) F 0 (by omega) (by omega)
      rw [Nat.add_zero] at this
      rw [bifT (by simp; omega)]
      exact Eq.trans this (ih (c + 1) (by omega) (by omega))
    · rw [bifF (by simp; omega), show c = 4 by omega, mkK_end h1 hk]
theorem more_waits {l : List plan_Job} {w : List Int} (h7 : l.length ≤ 7) (hw : w.length = l.length + 1) : ∀ n j : Nat, j ≤ l.length + 1 → l.length + 1 < n + j → law06_PlanMore_1_L3 l w n (j : Int) = some (((List.range l.length).drop j).all fun j : Nat => decide (w.getD j 0 ≤ ((dj l).getD j default).every)) := by
  intro n
  induction n with
  | zero => intro j h1 h2; omega
  | succ n ih =>
    intro j hj0 hj
    simp only [law06_PlanMore_1_L3, law06_PlanMore_1_B3, law06_PlanMore_1_K2]
    by_cases hc : j < l.length + 1
    · rw [bifT (by simp; omega), getb 0 (by omega), Int.toNat_natCast]
      by_cases hc2 : j < l.length
      · have hd : decide ((j : Int) < ((l.length : Nat) : Int)) = true := decide_eq_true (by omega)
        rw [hd, gdT (g := ((true == true) && true)) rfl, getb default (by omega), Int.toNat_natCast, cond_true, every_get hc2]
        rw [show (List.range l.length).drop j = j :: (List.range l.length).drop (j + 1) by rw [List.drop_eq_getElem_cons (by simpa using hc2)]; simp, List.all_cons]
        by_cases hg : w.getD j 0 > ((dj l).getD j default).every
        · rw [bifT (decide_eq_true hg), decide_eq_false (by omega)]; rfl
        · rw [bifF (decide_eq_false hg), decide_eq_true (show w.getD j 0 ≤ ((dj l).getD j default).every by omega), Bool.true_and, ckb (by omega), show (j : Int) + 1 = ((j + 1 : Nat) : Int) by omega]
          exact ih (j + 1) (by omega) (by omega)
      · have hd : decide ((j : Int) < ((l.length : Nat) : Int)) = false := decide_eq_false (by omega)
        have hn := ih (j + 1) (by omega) (by omega)
        rw [List.drop_of_length_le (by simp; omega)] at hn ⊢
        rw [hd, gdF (g := ((false == true) && true)) rfl, Option.bind_some, cond_false, cond_false, ckb (by omega), show (j : Int) + 1 = ((j + 1 : Nat) : Int) by omega]
        exact hn
    · rw [bifF (by simp; omega), List.drop_of_length_le (by simp; omega)]; rfl
theorem ins_begin' {r : RadarD} {l : List JobD} {e : JobD} {s : List Int} (hs : okS l.length s) (h1 : 1 ≤ s.length) {i : Nat} (hi : i < s.length) :
    (atD r (l ++ [e]) (insS s l.length (s.length + i + 1))).getD (s.length + i + 1) 0 - (atD r (l ++ [e]) (insS s l.length (s.length + i + 1))).getD s.length 0 = beginD' r l e s i := by
  have hR := rp_len s 4
  have hAl : (atD r l (rp s 4)).length = 4 * s.length := by rw [atD_len, hR]
  have hm : s.length + i + 1 < 4 * s.length := by omega
  rw [ins_at hs h1 (by omega) hm]
  have htl : ((atD r l (rp s 4)).take (s.length + i + 1)).length = s.length + i + 1 := by simp; omega
  have g1 : ∀ (X Y : List Int) (z : Int), X.length = s.length + i + 1 → (X ++ [z] ++ Y).getD (s.length + i + 1) 0 = z := by
    intro X Y z hX
    rw [List.getD_eq_getElem?_getD, List.append_assoc, List.getElem?_append_right (by omega), hX]; simp
  have g2 : ∀ (X Y : List Int), s.length < X.length → (X ++ Y).getD s.length 0 = X.getD s.length 0 := by
    intro X Y hX
    rw [List.getD_eq_getElem?_getD, List.getElem?_append_left hX, ← List.getD_eq_getElem?_getD]
  rw [g1 _ _ _ htl, List.append_assoc, g2 _ _ (by omega)]
  have e1 : ((atD r l (rp s 4)).take (s.length + i + 1)).getD s.length 0 = allD r l s := by
    rw [List.getD_eq_getElem?_getD, List.getElem?_take, if_pos (by omega), ← List.getD_eq_getElem?_getD, rp_at_get h1 4 _ (by omega), Nat.mod_self, Nat.div_self (by omega), atD_zero s h1]
    simp
  have e2 : doneD r l ((rp s 4).take (s.length + i + 1)) = (atD r l s).getD i 0 + allD r l s + tk r l (s.getD i 0) := by
    rw [← take_snoc (d := 0) (show s.length + i < (rp s 4).length by omega), doneD_snoc, ← atD_start r l _ (by omega), rp_at_get h1 4 _ (by omega), Nat.add_mod_left, Nat.mod_eq_of_lt hi, rp_get h1 4 _ (by omega), Nat.add_mod_left, Nat.mod_eq_of_lt hi]
    rw [show (s.length + i) / s.length = 1 from Nat.div_eq_of_lt_le (by omega) (by omega)]
    simp
  rw [e1, e2, show s.length + i + 1 - 1 = s.length + i by omega, rp_get h1 4 _ (by omega), Nat.add_mod_left, Nat.mod_eq_of_lt hi]
  unfold beginD'
  omega
theorem fits_eq {F : Nat} (hF : 1300 ≤ F) {r : plan_Radar} {l : List plan_Job} (h : OkL r l) (h5 : l.length ≤ 5) {s : List Int} (hs : okS l.length s) (h1 : 1 ≤ s.length) (h12 : s.length ≤ 12) {e : plan_Job} (he : jobErr (pj e) = 0) {t : Int} (ht : 0 ≤ t ∧ t ≤ 65535) {k : Nat} (hk : k < s.length) :
    law06_PlanMore_1 F (k : Int) s l r (l ++ [e]) t = some (insOk (pr r) (dj l) (pj e) s t k) := by
  have hs' : okS (dj l).length s := by simpa using hs
  have hE : OkL r (l ++ [e]) := ⟨h.hr, fun j hj => by
    rcases List.mem_append.1 hj with hj | hj
    · exact h.hl j hj
    · rw [List.mem_singleton] at hj; subst hj; exact he, by simp, by simp; omega⟩
  have eE : dj (l ++ [e]) = dj l ++ [pj e] := by simp [dj]
  have hok : okS (l ++ [e]).length (insS s l.length (s.length + k + 1)) := by rw [List.length_append]; exact mkS_ok hs
  have hok' : okS (dj (l ++ [e])).length (insS s l.length (s.length + k + 1)) := by simpa using hok
  have hlen := mkS_len (s := s) (N := l.length) (m := s.length + k + 1) (by omega)
  have hmk := more_outer (F := F) (by omega) (l := l) (L := l ++ [e]) (r := r) (t := t) h1 h12 hk F 0 (by omega) (by omega)
  have e0 : mkK s l.length k (0 * s.length) = [] := by unfold mkK; simp
  rw [e0] at hmk
  have hAl := atD_len (pr r) (dj (l ++ [e])) (insS s l.length (s.length + k + 1))
  have hb1 := atD_bd hE.hr hE.okJ _ hok' (s.length + k + 1)
  have hb2 := atD_bd hE.hr hE.okJ _ hok' s.length
  have hbeg := ins_begin' (r := pr r) (l := dj l) (e := pj e) hs' h1 hk
  rw [djl, ← eE] at hbeg
  rw [law06_PlanMore_1]
  refine Eq.trans hmk ?_
  rw [law06_PlanMore_1_K1, lbegins_eq (by omega) hE hok (by omega), Option.bind_some]
  have hg : (((!(atD (pr r) (dj (l ++ [e])) (insS s l.length (s.length + k + 1)), true).2) == false) && true) = true := rfl
  rw [gdT hg, ckb (by omega), gdT hg, ckb (by omega), gdT hg, show (s.length : Int) + (k : Int) + 1 = ((s.length + k + 1 : Nat) : Int) by omega]
  dsimp only
  rw [getb 0 (by omega), Int.toNat_natCast, gdT hg, getb 0 (by omega), Int.toNat_natCast, gdT hg, ckb (by omega), gdT hg, ckb (by omega), hbeg, Bool.not_true, cond_false]
  unfold insOk
  by_cases hgt : beginD' (pr r) (dj l) (pj e) s k > t
  · rw [bifT (decide_eq_true hgt), decide_eq_false (by omega), Bool.false_and]
  · obtain ⟨w, hw, hwl, hwg⟩ := waits_eq (F := F) (l := l ++ [e]) (by simp; omega) (s := insS s l.length (s.length + k + 1)) (at_ := atD (pr r) (dj (l ++ [e])) (insS s l.length (s.length + k + 1))) (B := 200000000000) (by omega) hok hAl (by omega) (fun x hx => by
      obtain ⟨i, hi, rfl⟩ := List.mem_iff_getElem.1 hx
      have := atD_bd hE.hr hE.okJ _ hok' i
      rw [List.getD_eq_getElem?_getD, List.getElem?_eq_getElem hi] at this
      simp only [Option.getD_some] at this
      omega) (by omega)
    rw [List.length_append] at hwl hwg
    have hm := more_waits (l := l) (w := w) (by omega) hwl F 0 (by omega) (by omega)
    rw [List.drop_zero] at hm
    rw [bifF (decide_eq_false hgt), decide_eq_true (show beginD' (pr r) (dj l) (pj e) s k ≤ t by omega), Bool.true_and, hw, Option.bind_some]
    refine Eq.trans hm ?_
    congr 1
    unfold bearsB
    rw [djl]
    have : ∀ L : List Nat, (∀ j ∈ L, j < l.length) → (L.all fun j : Nat => decide (w.getD j 0 ≤ ((dj l).getD j default).every)) = (L.all fun j : Nat => decide (gap2J (occ j (insS s l.length (s.length + k + 1)) (atD (pr r) (dj l ++ [pj e]) (insS s l.length (s.length + k + 1)))) ≤ ((dj l).getD j default).every)) := by
      intro L
      induction L with
      | nil => intro _; rfl
      | cons j L ih =>
        intro hL
        rw [List.all_cons, List.all_cons, ih (fun j hj => hL j (by simp [hj])), hwg j (by have := hL j (by simp); omega), eE]
    exact this _ (fun j hj => List.mem_range.1 hj)
/-! ### The law -/
theorem lkept_loop {a : List Int} {e : Int} (h : a.length ≤ 1000) : ∀ n k : Nat, k ≤ a.length → a.length < n + k → law06_kept_L2 (a, e) n (k : Int) = some (!anyNeg (a.drop k) && (e == 0)) := by
  intro n
  induction n with
  | zero => intro k h1 h2; omega
  | succ n ih =>
    intro k hk0 hk
    simp only [law06_kept_L2, law06_kept_B2, law06_kept_K1]
    by_cases hc : k < a.length
    · have hd : a.drop k = a.getD k 0 :: a.drop (k + 1) := by
        rw [List.drop_eq_getElem_cons hc, List.getD_eq_getElem?_getD, List.getElem?_eq_getElem hc]; rfl
      unfold anyNeg at ih ⊢
      rw [bifT (by simp; omega), getb 0 (by omega), Int.toNat_natCast, hd, List.any_cons]
      by_cases hz : a.getD k 0 < 0
      · rw [bifT (decide_eq_true hz), decide_eq_true hz]; rfl
      · rw [bifF (decide_eq_false hz), decide_eq_false hz, Bool.false_or, ckb (by omega), show (k : Int) + 1 = ((k + 1 : Nat) : Int) by omega, ih (k + 1) (by omega) (by omega)]
    · rw [bifF (by simp; omega), List.drop_of_length_le (by omega)]; rfl
theorem lkept_eq {F : Nat} (hF : 100 ≤ F) (r : plan_Radar) (l : List plan_Job) (h7 : l.length ≤ 7) (s : List Int) : law06_kept F r l s = some (!anyNeg (judgeL (pr r) (dj l) s) && (judgeE (pr r) (dj l) s == 0)) := by
  have hl : (judgeL (pr r) (dj l) s).length ≤ 7 := by
    unfold judgeL
    split
    · rw [slackD_len', djl]; omega
    · simp
  rw [law06_kept, Judge_eq (by omega), Option.bind_some]
  exact lkept_loop (by omega) F 0 (by omega) (by omega)
theorem more_loop {F : Nat} (hF : 60 ≤ F) {r : plan_Radar} {l : List plan_Job} {s : List Int} {L : List plan_Job} {t : Int} {n : Nat} (hn : n ≤ 100) (hf : ∀ k, k < n → law06_PlanMore_1 F (k : Int) s l r L t = some false) :
    ∀ m k : Nat, k ≤ n → n < m + k → law06_PlanMore_L3 F t r l s L (n : Int) m (k : Int) = some true := by
  intro m
  induction m with
  | zero => intro k h1 h2; omega
  | succ m ih =>
    intro k hk0 hk
    simp only [law06_PlanMore_L3, law06_PlanMore_B3, law06_PlanMore_K2]
    by_cases hc : k < n
    · rw [bifT (by simp; omega), hf k hc, Option.bind_some, cond_false, ckb (by omega), show (k : Int) + 1 = ((k + 1 : Nat) : Int) by omega]
      exact ih (k + 1) (by omega) (by omega)
    · rw [bifF (by simp; omega), works_at' hF]; rfl
theorem find_range' {p : Nat → Bool} : ∀ n a i : Nat, (List.range' a n).find? p = some i → ∀ k, a ≤ k → k < i → p k = false
  | 0, a, i, h, _, _, _ => by simp at h
  | n + 1, a, i, h, k, h1, h2 => by
    rw [List.range'_succ, List.find?_cons] at h
    cases hp : p a with
    | true =>
      rw [hp] at h
      simp only [Option.some.injEq] at h
      omega
    | false =>
      rw [hp] at h
      by_cases hk : k = a
      · subst hk; exact hp
      · exact find_range' n (a + 1) i h k (by omega) h2
theorem find_lt {p : Nat → Bool} {n i : Nat} (h : (List.range n).find? p = some i) : i < n ∧ p i = true ∧ ∀ k, k < i → p k = false := by
  have h1 := List.mem_of_find?_eq_some h
  have h2 := List.find?_some h
  rw [List.mem_range] at h1
  rw [List.range_eq_range'] at h
  exact ⟨h1, h2, fun k hk => find_range' n 0 i h k (by omega) hk⟩
theorem PlanMore_eq {F : Nat} {d : law06_Desk} (hd : OkD d) {rd : List Int} (hrd : ∀ x ∈ rd, okB x) {w : law06_Wish} (hw : OkW w) {t : Int} (ht : 0 ≤ t ∧ t ≤ 65535) (hF : 1400 ≤ F) (hF2 : d.Jobs.length < F) : law06_PlanMore F d rd w t = some true := by
  rw [law06_PlanMore, guard12]
  by_cases hg : 1 ≤ rd.length ∧ rd.length ≤ 12
  · rw [decide_eq_true hg, Bool.not_true, cond_false]
    obtain ⟨r, hr, hrok, hduty, hturn, hmove, hrays⟩ := Desk_radar_eq (F := F) hd
    obtain ⟨l, hl, hlN, hl1⟩ := Desk_jobs_eq (F := F) hd hF2
    obtain ⟨s, hs, hslen, hsok⟩ := entries_eq (F := F) hrd (by omega) (by omega) (n := l.length) hl1
    obtain ⟨e, he, heN⟩ := Wish_job_eq (F := F) hw
    have hl4 := hlN.n
    have hL := hlN.okL hrok hl1
    have hs1 : 1 ≤ s.length := by omega
    have hs12 : s.length ≤ 12 := by omega
    rw [hr, Option.bind_some, hl, Option.bind_some, hs, Option.bind_some, apdb (by simp; omega), List.nil_append, he, Option.bind_some, apdb (by simp; omega), Option.bind_some, ckb (by omega), Insert_eq (by omega), Option.bind_some, lkept_eq (by omega) r l (by omega), Option.bind_some]
    have hchk : checkE (pr r) [pj e] = 0 := by
      unfold checkE
      rw [if_pos hrok, if_pos (inB_iff.2 (by simp))]
      exact firstErr_zero (fun x hx => by rw [List.mem_singleton] at hx; subst hx; exact heN.1)
    have hj := judge_valid hL (by omega) hsok hs1 hs12
    have hin : inB t 0 4294967296 = true := inB_iff.2 (by omega)
    have hwk := works_at' (F := F) (by omega)
    by_cases hx : ∃ j : Nat, j < l.length ∧ (j : Int) ∉ s
    · rw [if_pos hx] at hj
      have hI : insertR (pr r) (dj l) s (pj e) t = (0, 23) := by unfold insertR; rw [if_neg (by rw [hj]; decide), hj]
      rw [hI, hj, show ((23 : Int) == 0) = false from rfl, Bool.and_false, Bool.not_false, cond_true]
      simp [gd, hwk]
    · rw [if_neg hx] at hj
      rw [hj, show ((0 : Int) == 0) = true from rfl, Bool.and_true, Bool.not_not]
      cases hn : anyNeg (judgeL (pr r) (dj l) s) with
      | true =>
        have hI : insertR (pr r) (dj l) s (pj e) t = (0, 6) := by unfold insertR; rw [if_pos hj, if_pos hchk, if_pos hn]
        rw [hI, cond_true]
        simp [gd, hwk]
      | false =>
        have hI : insertR (pr r) (dj l) s (pj e) t = insFind (pr r) (dj l) (pj e) s t := by unfold insertR; rw [if_pos hj, if_pos hchk, if_neg (by rw [hn]; simp), if_pos hin]
        have hfit : ∀ k, k < s.length → law06_PlanMore_1 F (k : Int) s l r (l ++ [e]) t = some (insOk (pr r) (dj l) (pj e) s t k) := fun k hk => fits_eq (by omega) hL (by omega) hsok hs1 hs12 heN.1 ht hk
        rw [hI, cond_false]
        unfold insFind
        cases hf : (List.range s.length).find? (insOk (pr r) (dj l) (pj e) s t) with
        | none =>
          rw [List.find?_eq_none] at hf
          rw [bifT (by rfl), law06_PlanMore_K1]
          exact more_loop (by omega) (by omega) (fun k hk => by
            rw [hfit k hk]
            have := hf k (List.mem_range.2 hk)
            simpa using this) F 0 (by omega) (by omega)
        | some i =>
          obtain ⟨f1, f2, f3⟩ := find_lt hf
          have hcond : (bif (bif (((i : Int), (0 : Int)).2 != 0) then true else (decide (((i : Int), (0 : Int)).1 < 0))) then true else (decide (((i : Int), (0 : Int)).1 ≥ ((s.length : Nat) : Int)))) = false := by
            show (bif decide ((i : Int) < 0) then true else decide ((i : Int) ≥ ((s.length : Nat) : Int))) = false
            rw [decide_eq_false (by omega), cond_false]
            exact decide_eq_false (by omega)
          rw [bifF (by rfl), bifF hcond]
          have hfi := hfit i f1
          rw [f2] at hfi
          show ((law06_PlanMore_1 F (i : Int) s l r (l ++ [e]) t).bind fun y258 => _) = _
          rw [hfi, Option.bind_some, Bool.not_true, cond_false, law06_PlanMore_K1]
          exact more_loop (by omega) (by omega) (fun k hk => by rw [hfit k (by omega), f3 k hk]) F 0 (by omega) (by omega)
  · rw [decide_eq_false hg, Bool.not_false, cond_true, works_at' (by omega)]; rfl
end Go.Proofs.Ytejffembnkojjaa
