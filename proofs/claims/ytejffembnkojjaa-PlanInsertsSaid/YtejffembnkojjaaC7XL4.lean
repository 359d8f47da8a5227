/- Chapter 6, plain laws, part 4: the document's judging; what is done at a time; the law PlanJudges. -/
import Derived.Test.YtejffembnkojjaaC7XL3
import Derived.Test.YtejffembnkojjaaC7PlanQ
namespace Go.Proofs.Ytejffembnkojjaa
open Go Go.Eng Go.Plan
set_option linter.unusedVariables false
set_option linter.unusedSimpArgs false
set_option maxRecDepth 10000
/-! ### The document's gap -/
theorem two_get {s : List Int} {i : Nat} (h : i < 2 * s.length) (f : Int → Int) : (s ++ s.map f).getD i 0 = if i < s.length then s.getD i 0 else f (s.getD (i - s.length) 0) := by
  split
  · rename_i hc
    simp [List.getD_eq_getElem?_getD, List.getElem?_append_left hc]
  · rename_i hc
    rw [← map_getD' (d := 0) (e := 0) f (show i - s.length < s.length by omega)]
    simp [List.getD_eq_getElem?_getD, List.getElem?_append_right (Nat.le_of_not_lt hc)]
theorem lastO_mem : ∀ (a : Int) (l : List Int), lastO a l ∈ a :: l
  | a, [] => by simp [lastO]
  | a, x :: l => by
    have := lastO_mem x l
    simp only [lastO]
    exact List.mem_cons_of_mem _ this
theorem occ_sub {j : Int} : ∀ (s l : List Int) (x : Int), x ∈ occ j s l → x ∈ l
  | [], _, _, h => by simp [occ] at h
  | _ :: _, [], _, h => by simp [occ] at h
  | y :: s, a :: l, x, h => by
    have ih := occ_sub (j := j) s l x
    simp only [occ] at h
    split at h
    · rcases List.mem_cons.1 h with rfl | h
      · simp
      · exact List.mem_cons_of_mem _ (ih h)
    · exact List.mem_cons_of_mem _ (ih h)
theorem gap_loop {s at_ : List Int} {al B : Int} (hl : at_.length = s.length) (h1 : 1 ≤ s.length) (h60 : s.length ≤ 60) (hB : B ≤ 1000000000000) (hat : ∀ x ∈ at_, 0 ≤ x ∧ x ≤ B) (hal : 0 ≤ al ∧ al ≤ B) (j : Int) :
    ∀ n k : Nat, k ≤ 2 * s.length → 2 * s.length < n + k →
    ref06_gap_L2 s j (at_, al) n (stO (occ j ((s ++ s).take k) ((at_ ++ at_.map (· + al)).take k))).1 (stO (occ j ((s ++ s).take k) ((at_ ++ at_.map (· + al)).take k))).2 (k : Int) = some (gapJ al (occ j s at_)) := by
  have hmem : ∀ x ∈ at_ ++ at_.map (· + al), 0 ≤ x ∧ x ≤ 2 * B := by
    intro x hx
    rcases List.mem_append.1 hx with hx | hx
    · have := hat x hx; omega
    · obtain ⟨y, hy, rfl⟩ := List.mem_map.1 hx
      have := hat y hy; omega
  intro n
  induction n with
  | zero => intro k h1 h2; omega
  | succ n ih =>
    intro k hk0 hk
    simp only [ref06_gap_L2, ref06_gap_B2, ref06_gap_K1, ref06_gap_K3, ref06_gap_K4]
    rw [ckb (by omega)]
    by_cases hc : k < 2 * s.length
    · have hS : (s ++ s).getD k 0 = s.getD (k % s.length) 0 := by
        have := two_get hc (fun x => x)
        rw [List.map_id'] at this
        rw [this]
        split
        · rename_i h; rw [Nat.mod_eq_of_lt h]
        · rename_i h
          rw [Nat.mod_eq_sub_mod (by omega), Nat.mod_eq_of_lt (by omega)]
      have hA : (at_ ++ at_.map (· + al)).getD k 0 = at_.getD (k % s.length) 0 + ((k / s.length : Nat) : Int) * al := by
        rw [two_get (by omega) (· + al), hl]
        split
        · rename_i h; rw [Nat.mod_eq_of_lt h, Nat.div_eq_of_lt h]; simp
        · rename_i h
          rw [Nat.mod_eq_sub_mod (by omega), Nat.mod_eq_of_lt (by omega), Nat.div_eq_sub_div (by omega) (by omega), Nat.div_eq_of_lt (by omega)]
          simp
      have hmod : k % s.length < s.length := Nat.mod_lt _ (by omega)
      have hmA : (at_ ++ at_.map (· + al)).getD k 0 ∈ at_ ++ at_.map (· + al) := by
        rw [List.getD_eq_getElem?_getD, List.getElem?_eq_getElem (by simp; omega)]; exact List.getElem_mem _
      have hbA := hmem _ hmA
      have hma : at_.getD (k % s.length) 0 ∈ at_ := by
        rw [List.getD_eq_getElem?_getD, List.getElem?_eq_getElem (by omega)]; exact List.getElem_mem _
      have hba := hat _ hma
      have hdiv : 0 ≤ ((k / s.length : Nat) : Int) * al := Int.mul_nonneg (Int.natCast_nonneg _) hal.1
      have hstep := occ_snoc j ((s ++ s).getD k 0) ((at_ ++ at_.map (· + al)).getD k 0) ((s ++ s).take k) ((at_ ++ at_.map (· + al)).take k) (by simp; omega)
      rw [take_snoc (by simp; omega), take_snoc (by simp; omega)] at hstep
      have hsub : ∀ x ∈ occ j ((s ++ s).take k) ((at_ ++ at_.map (· + al)).take k), 0 ≤ x ∧ x ≤ 2 * B := fun x hx => hmem x (List.mem_of_mem_take (occ_sub _ _ _ hx))
      have hn := ih (k + 1) (by omega) (by omega)
      rw [hstep] at hn
      rw [bifT (by simp; omega), rem1 (by omega) (by omega), Option.bind_some, show ((k : Int) % (s.length : Int)) = ((k % s.length : Nat) : Int) from rfl, getb 0 (by omega), Int.toNat_natCast, ← hS]
      generalize occ j ((s ++ s).take k) ((at_ ++ at_.map (· + al)).take k) = o at hn hsub ⊢
      by_cases hj : (s ++ s).getD k 0 = j
      · rw [if_pos hj] at hn
        have hj' : ((s ++ s).getD k 0 != j) = false := by rw [hj]; simp
        rw [bifF hj', Option.bind_some, getb 0 (by omega), Int.toNat_natCast, quo1 (by omega) (by omega), Option.bind_some, show ((k : Int) / (s.length : Int)) = ((k / s.length : Nat) : Int) from rfl, ckb (by omega), ckb (by omega), ← hA]
        rw [stO_snoc] at hn
        cases o with
        | nil =>
          rw [bifF (by simp [stO]), ckb (by omega), show (k : Int) + 1 = ((k + 1 : Nat) : Int) by omega]
          exact hn
        | cons x o =>
          have hlo := hsub _ (lastO_mem x o)
          rw [show (stO (x :: o)).2 = lastO x o from rfl, bifT (by simp; omega), ckb (by omega), ckb (by omega), show (k : Int) + 1 = ((k + 1 : Nat) : Int) by omega, mx_if]
          exact hn
      · rw [if_neg hj, List.append_nil] at hn
        have hj' : ((s ++ s).getD k 0 != j) = true := by simpa using hj
        rw [bifT hj', ckb (by omega), show (k : Int) + 1 = ((k + 1 : Nat) : Int) by omega]
        exact hn
    · have hk' : k = 2 * s.length := by omega
      rw [bifF (by simp; omega), List.take_of_length_le (by simp; omega), List.take_of_length_le (by simp; omega), stO_gap, occ_append j s at_ s _ hl.symm, occ_map, gap2J_eq]
theorem atD_mem_bd {r : RadarD} {l : List JobD} (hr : radarOk r = true) (hl : okJ l) {s : List Int} (hs : okS l.length s) : ∀ x ∈ atD r l s, 0 ≤ x ∧ x ≤ s.length * 3100000000 := by
  intro x hx
  obtain ⟨i, hi, rfl⟩ := List.mem_iff_getElem.1 hx
  have := atD_bd hr hl s hs i
  rwa [List.getD_eq_getElem?_getD, List.getElem?_eq_getElem hi] at this
theorem ref_gap_eq {F : Nat} (hF : 130 ≤ F) {r : ref06_Radar} {l : List ref06_Job} (h : OkR r l) {s : List Int} (hs : okS l.length s) (h1 : 1 ≤ s.length) (h60 : s.length ≤ 60) (j : Int) : ref06_gap F r l s j = some (gapD (rr r) (ej l) s j) := by
  have hs' : okS (ej l).length s := by simpa using hs
  have h0 := hs 0 (by omega)
  have hal := allD_bd h.hr h.okJ hs' h1
  have ha0 := atD_mem_bd h.hr h.okJ hs'
  rw [ref06_gap, getb 0 (by omega), show (0 : Int).toNat = 0 from rfl, getb default (by omega), begins_eq (by omega) h hs h60 (h.get (by omega)), Option.bind_some]
  rw [getD_map_rj (by omega) default, endD_start]
  exact gap_loop (at_ := atD (rr r) (ej l) s) (al := allD (rr r) (ej l) s) (B := 200000000000) (atD_len _ _ _) h1 h60 (by omega) (fun x hx => by have := ha0 x hx; omega) (by omega) j F 0 (by omega) (by omega)
theorem gapD_bd {r : RadarD} {l : List JobD} (hr : radarOk r = true) (hl : okJ l) {s : List Int} (hs : okS l.length s) (h1 : 1 ≤ s.length) (h60 : s.length ≤ 60) {j : Nat} (hj : j < l.length) : 0 ≤ gapD r l s j ∧ gapD r l s j ≤ 800000000000 := by
  rw [← gapsD_get r l s l.length hs j hj]
  exact (gap2_bd hr hl hs h1 h60 l.length s.length).1 j
theorem slackD_get {r : RadarD} {l : List JobD} {s : List Int} (hs : okS l.length s) {j : Nat} (hj : j < l.length) : (slackD r l s).getD j 0 = (l.getD j default).every - gapD r l s j := by
  rw [slackD, slack2_get, if_pos ⟨hj, by rw [gapsD_len]; exact hj⟩, gapsD_get r l s l.length hs j hj]
theorem slackD_len (r : RadarD) (l : List JobD) (s : List Int) : (slackD r l s).length = l.length := by rw [slackD, slack2_len, gapsD_len]
theorem ref_slack_loop {F : Nat} (hF : 130 ≤ F) {r : ref06_Radar} {l : List ref06_Job} (h : OkR r l) {s : List Int} (hs : okS l.length s) (h1 : 1 ≤ s.length) (h60 : s.length ≤ 60) :
    ∀ n q : Nat, q ≤ l.length → l.length < n + q → (∀ i, i < q → (gapsD (rr r) (ej l) s l.length).getD i 0 ≠ 0) →
    ref06_Judge_L3 F r l s n ((slackD (rr r) (ej l) s).take q) (q : Int) = some (if (gapsD (rr r) (ej l) s l.length).contains 0 then ([], 23) else (slackD (rr r) (ej l) s, 0)) := by
  have hs' : okS (ej l).length s := by simpa using hs
  have h6 := h.h6
  have hgl := gapsD_len (rr r) (ej l) s l.length
  intro n
  induction n with
  | zero => intro q h1 h2; omega
  | succ n ih =>
    intro q hq0 hq hne
    simp only [ref06_Judge_L3, ref06_Judge_B3, ref06_Judge_K2]
    have hsl := slackD_len (rr r) (ej l) s
    rw [ejl] at hsl
    by_cases hc : q < l.length
    · have hg := gapsD_get (rr r) (ej l) s l.length (by simpa using hs) q hc
      have hb := gapD_bd h.hr h.okJ hs' h1 h60 (j := q) (by simpa using hc)
      have hev := (jobErr_ok (h.get hc)).2.2.1
      have hsg := slackD_get (r := rr r) hs' (j := q) (by simpa using hc)
      rw [← getD_map_rj hc default] at hsg
      simp only [rj] at hev hsg
      rw [bifT (by simp; omega), ref_gap_eq hF h hs h1 h60, Option.bind_some]
      by_cases hz : gapD (rr r) (ej l) s q = 0
      · rw [bifT (by rw [hz]; rfl), if_pos (contains_get (i := q) (by omega) (by rw [hg, hz]))]
      · have hzz : (gapD (rr r) (ej l) s q == 0) = false := by simpa using hz
        rw [bifF hzz, getb default (by omega), Int.toNat_natCast, ckb (by omega), apdb (by simp; omega), ckb (by omega), show (q : Int) + 1 = ((q + 1 : Nat) : Int) by omega, ← hsg, take_snoc (by omega)]
        exact ih (q + 1) (by omega) (by omega) (fun i hi => by
          by_cases hiq : i = q
          · subst hiq; rw [hg]; exact hz
          · exact hne i (by omega))
    · have hq' : q = l.length := by omega
      subst hq'
      rw [bifF (by simp), if_neg (by rw [not_contains (fun i hi => hne i (by omega))]; simp), List.take_of_length_le (by omega)]
theorem ref_judge_loop {F : Nat} (hF : 130 ≤ F) {r : ref06_Radar} {l : List ref06_Job} (h : OkR r l) {s : List Int} (h1 : 1 ≤ s.length) (h12 : s.length ≤ 12) :
    ∀ n k : Nat, k ≤ s.length → s.length < n + k → (∀ i, i < k → inB (s.getD i 0) 0 ((l.length : Int) - 1) = true) →
    ref06_Judge_L4 F r l s n (k : Int) = some (if inS l.length s then (if (gapsD (rr r) (ej l) s l.length).contains 0 then ([], 23) else (slackD (rr r) (ej l) s, 0)) else ([], 4)) := by
  have h6 := h.h6
  intro n
  induction n with
  | zero => intro k h1 h2; omega
  | succ n ih =>
    intro k hk0 hk hne
    simp only [ref06_Judge_L4, ref06_Judge_B4, ref06_Judge_K1]
    by_cases hc : k < s.length
    · rw [bifT (by simp; omega), getb 0 (by omega), Int.toNat_natCast, ckb (by omega), rin]
      by_cases hin : inB (s.getD k 0) 0 ((l.length : Int) - 1) = true
      · rw [bifF (by rw [hin]; rfl), ckb (by omega), show (k : Int) + 1 = ((k + 1 : Nat) : Int) by omega]
        exact ih (k + 1) (by omega) (by omega) (fun i hi => by
          by_cases hik : i = k
          · subst hik; exact hin
          · exact hne i (by omega))
      · have hin' : inB (s.getD k 0) 0 ((l.length : Int) - 1) = false := by simpa using hin
        rw [bifT (by rw [hin']; rfl), if_neg (by rw [inS_bad hc hin']; simp)]
    · have hs : okS l.length s := fun i hi => by
        have := inB_iff.1 (hne i (by omega)); omega
      rw [bifF (by simp; omega), if_pos (inS_iff.2 hs)]
      exact ref_slack_loop hF h hs h1 (by omega) F 0 (by omega) (by omega) (fun i hi => by omega)
theorem ref_Judge_eq {F : Nat} (hF : 130 ≤ F) (r : ref06_Radar) (l : List ref06_Job) (s : List Int) : ref06_Judge F r l s = some (judgeL (rr r) (ej l) s, judgeE (rr r) (ej l) s) := by
  have e : (bif decide ((s.length : Int) < 1) then true else decide ((s.length : Int) > 12)) = !inB s.length 1 12 := by
    simp only [inB, Bool.cond_eq_ite]
    by_cases h1 : (s.length : Int) < 1 <;> by_cases h2 : (s.length : Int) > 12 <;> simp [h1, h2] <;> omega
  rw [ref06_Judge, ref06_Check_eq (by omega), Option.bind_some, e]
  unfold judgeL judgeE
  by_cases hc : checkE (rr r) (ej l) = 0
  · have h := OkR.of hc
    rw [bifF (by simp [hc]), if_pos hc]
    by_cases hl : inB (s.length : Int) 1 12 = true
    · have hl' := inB_iff.1 hl
      have := ref_judge_loop hF h (s := s) (by omega) (by omega) F 0 (by omega) (by omega) (fun i hi => by omega)
      replace this : ref06_Judge_L4 F r l s F 0 = _ := this
      rw [bifF (by simp [hl]), this, if_pos hl]
      simp only [ejl]
      by_cases hs : inS l.length s = true
      · rw [if_pos hs, if_pos hs]
        by_cases hg : (gapsD (rr r) (ej l) s l.length).contains 0 = true
        · simp only [if_pos hg]; rfl
        · simp only [if_neg hg]; rfl
      · simp only [if_neg hs]; rfl
    · rw [bifT (by simp [hl])]
      simp only [if_neg hl]; rfl
  · rw [bifT (by simp [hc])]
    simp only [if_neg hc]
end Go.Proofs.Ytejffembnkojjaa
