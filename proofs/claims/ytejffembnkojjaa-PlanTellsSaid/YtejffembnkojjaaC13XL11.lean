/- Chapter 6, plain laws, part 11: the law PlanTells. -/
import Derived.Test.YtejffembnkojjaaC13XL10
import Derived.Test.YtejffembnkojjaaC13XL5
namespace Go.Proofs.Ytejffembnkojjaa
open Go Go.Eng Go.Plan
set_option linter.unusedVariables false
set_option linter.unusedSimpArgs false
set_option maxRecDepth 10000
theorem Where_at {F : Nat} (hF : 20 ≤ F) {r : plan_Radar} {l : List plan_Job} {s : List Int} {t u : Int} {e : Nat} (hj : judgeE (pr r) (dj l) s = 0) (ht : 0 ≤ t ∧ t ≤ 4294967296) (hu : t % allD (pr r) (dj l) s = u) (he : At (atD (pr r) (dj l) s) u e) :
    plan_Where F r l s t = some (whereD (pr r) (dj l) s u e) := by
  obtain ⟨x, hx, hx2⟩ := Where_eq hF r l s t
  rw [hx]
  unfold whereR at hx2
  rw [if_pos hj, if_pos (inB_iff.2 ht), hu] at hx2
  obtain ⟨e', he', rfl⟩ := hx2
  rw [he.uniq he']
/-- The time of an element lies where it should. -/
theorem at_elem {r : RadarD} {l : List JobD} (hr : radarOk r = true) (hl : okJ l) {s : List Int} (hs : okS l.length s) {i : Nat} (hi : i < s.length) {x : Int} (h0 : 0 ≤ x) (h1 : (atD r l s).getD i 0 + x < if i + 1 < s.length then (atD r l s).getD (i + 1) 0 else allD r l s) :
    At (atD r l s) ((atD r l s).getD i 0 + x) i ∧ 0 ≤ (atD r l s).getD i 0 + x ∧ (atD r l s).getD i 0 + x < allD r l s := by
  have hlen := atD_len r l s
  have hrise := atD_rise hr hl s hs
  have hb := atD_bd hr hl s hs i
  have hall := allD_ge hr hl hs (by omega)
  refine ⟨⟨by omega, by omega, fun k hk hk2 => ?_⟩, by omega, ?_⟩
  · rw [if_pos (by omega)] at h1
    rcases Nat.lt_or_eq_of_le (show i + 1 ≤ k by omega) with h | h
    · have := hrise.2 (i + 1) k h (by omega); omega
    · subst h; omega
  · split at h1
    · rename_i hc
      have := hrise.1 (i + 1) hc
      omega
    · exact h1
theorem tells_K {F : Nat} (hF : 20 ≤ F) {r : plan_Radar} {l : List plan_Job} {s : List Int} (hS : OkS r l) (hs : okS l.length s) (hj : judgeE (pr r) (dj l) s = 0) (h12 : s.length ≤ 12) {i : Nat} (hi : i < s.length) {x c : Int} (hc : 0 ≤ c ∧ c ≤ 2) (h0 : 0 ≤ x)
    (h1 : (atD (pr r) (dj l) s).getD i 0 + x < if i + 1 < s.length then (atD (pr r) (dj l) s).getD (i + 1) 0 else allD (pr r) (dj l) s) :
    plan_Where F r l s ((atD (pr r) (dj l) s).getD i 0 + x + allD (pr r) (dj l) s * c) = some (whereD (pr r) (dj l) s ((atD (pr r) (dj l) s).getD i 0 + x) i) := by
  have hs' : okS (dj l).length s := by simpa using hs
  obtain ⟨a1, a2, a3⟩ := at_elem hS.L.hr hS.L.okJ hs' hi h0 h1
  have hall : allD (pr r) (dj l) s ≤ s.length * 3100 + 33 := hS.start hs (hs 0 (by omega))
  have hm := mul_bd (a := allD (pr r) (dj l) s) (b := c) (A := 40000) (B := 2) (by omega) hc
  refine Where_at hF hj (by omega) ?_ a1
  rw [Int.add_mul_emod_self_left]
  exact Int.emod_eq_of_lt a2 a3
theorem tells_inner {F : Nat} (hF : 20 ≤ F) {r : plan_Radar} {l : List plan_Job} {s : List Int} (hS : OkS r l) (hs : okS l.length s) (hj : judgeE (pr r) (dj l) s = 0) (h12 : s.length ≤ 12) {step : Int} (hst : okB step) {i : Nat} (hi : i < s.length) (k2 : Int → Option Bool) {z : Bool} {A : List Int} (hA : A.getD i 0 = (atD (pr r) (dj l) s).getD i 0) (hAl : i < A.length)
    (T : Int) (hT : T = tk (pr r) (dj l) (s.getD i 0)) {g : Int} (hg : g = (if i + 1 < s.length then (atD (pr r) (dj l) s).getD (i + 1) 0 else allD (pr r) (dj l) s) - (atD (pr r) (dj l) s).getD i 0 - 1) (h2 : k2 ((i + 1 : Nat) : Int) = some true) :
    law06_PlanTells_L4 F step r l s (A, z) (allD (pr r) (dj l) s) (i : Int) k2 (T, 0) (T - 1) ((T - 1) * r.Rays / T) (T / 2) (T / 2 * r.Rays / T) g F 0 = some true := by
  have hs' : okS (dj l).length s := by simpa using hs
  have hx := hs i hi
  have hT1 := tk_pos hS.L.hr hS.L.okJ (j := s.getD i 0) (by simpa using hx)
  have hT2 := hS.tk hx
  have hrb := radarOk_bd hS.L.hr
  simp only [pr] at hrb
  unfold okB at hst
  have hatb := atD_bd hS.L.hr hS.L.okJ s hs' i
  have hdone := (atD_rise hS.L.hr hS.L.okJ s hs').1 i hi
  have hall : allD (pr r) (dj l) s ≤ s.length * 3100 + 33 := hS.start hs (hs 0 (by omega))
  have halb := allD_ge hS.L.hr hS.L.okJ hs' (by omega)
  have hstep : T ≤ (if i + 1 < s.length then (atD (pr r) (dj l) s).getD (i + 1) 0 else allD (pr r) (dj l) s) - (atD (pr r) (dj l) s).getD i 0 := by
    split
    · rename_i hc
      have e := atD_step (r := pr r) (l := dj l) (s := s) hc
      have hm := mv_bd hS.L.hr hS.L.okJ (i := s.getD i 0) (j := s.getD (i + 1) 0) (by simpa using hx) (by simpa using hs (i + 1) hc)
      omega
    · rename_i hc
      have e : s.length - 1 = i := by omega
      have hw := way hS.L.hr hS.L.okJ s hs' (s.getD 0 0) (by simpa using hs 0 (by omega)) i hi
      have hm := mv_bd hS.L.hr hS.L.okJ (i := s.getD i 0) (j := s.getD 0 0) (by simpa using hx) (by simpa using hs 0 (by omega))
      unfold allD
      omega
  -- one of the four times
  have one : ∀ (now ray : Int), 0 ≤ now → now ≤ T → (ray = now * r.Rays / T ∧ now < T ∨ ray = -1 ∧ now = T ∧ T ≤ g ∨ ray = -1 ∧ now < T) → ∀ (k4 : Int → Option Bool) (k : Nat), k ≤ 4 → k4 ((k + 1 : Nat) : Int) = some true →
      (bif (bif (decide (ray < 0)) then (decide (now < T)) else false) then (law06_PlanTells_K5 (k : Int) k4) else ((getI A (i : Int)).bind fun u1149 =>
        (ck (u1149 + now)).bind fun x1150 =>
        (ck step).bind fun x1151 =>
        (remC x1151 3).bind fun x1152 =>
        (ck (allD (pr r) (dj l) s * x1152)).bind fun x1153 =>
        (ck (x1150 + x1153)).bind fun x1154 =>
        (plan_Where F r l s x1154).bind fun y1155 =>
        bif (bif (bif (y1155.2.2 != 0) then true else (y1155.1 != (i : Int))) then true else (y1155.2.1 != ray)) then (some false) else (law06_PlanTells_K5 (k : Int) k4))) = some true := by
    intro now ray hn0 hnT hor k4 k hk hk4
    have hK : law06_PlanTells_K5 (k : Int) k4 = some true := by
      rw [law06_PlanTells_K5, ckb (by omega), show (k : Int) + 1 = ((k + 1 : Nat) : Int) by omega, hk4]
    by_cases hskip : ray < 0 ∧ now < T
    · rw [decide_eq_true hskip.1, cond_true, bifT (decide_eq_true hskip.2), hK]
    · have hcond : (bif (decide (ray < 0)) then (decide (now < T)) else false) = false := by
        by_cases h : ray < 0
        · rw [decide_eq_true h, cond_true]; exact decide_eq_false (fun h2 => hskip ⟨h, h2⟩)
        · rw [decide_eq_false h]; rfl
      have hm := mul_bd (a := allD (pr r) (dj l) s) (b := step % 3) (A := 40000) (B := 2) (by omega) (by omega)
      have hlt : (atD (pr r) (dj l) s).getD i 0 + now < if i + 1 < s.length then (atD (pr r) (dj l) s).getD (i + 1) 0 else allD (pr r) (dj l) s := by omega
      rw [bifF hcond, getb 0 (by omega), Int.toNat_natCast, hA, ckb (by omega), ckb (by omega), remb (by omega) (by omega), ckb (by omega), ckb (by omega), tells_K hF hS hs hj h12 hi (by omega) hn0 hlt, Option.bind_some]
      unfold whereD
      rw [show (atD (pr r) (dj l) s).getD i 0 + now - (atD (pr r) (dj l) s).getD i 0 = now by omega, ← hT]
      by_cases hge : now ≥ T
      · rw [if_pos hge]
        have hray : ray = -1 := by
          rcases hor with h | h | h
          · omega
          · exact h.1
          · exact h.1
        subst hray
        rw [bifF (by simp), hK]
      · rw [if_neg hge]
        have hray : ray = now * r.Rays / T := by
          rcases hor with h | h | h
          · exact h.1
          · omega
          · exact absurd ⟨by omega, h.2⟩ hskip
        subst hray
        rw [bifF (by simp [pr]), hK]
  have hz : ∀ k : Int, law06_PlanTells_K3 (i : Int) k2 = some true := fun _ => by
    rw [law06_PlanTells_K3, ckb (by omega), show (i : Int) + 1 = ((i + 1 : Nat) : Int) by omega, h2]
  have hq1 := Int.ediv_nonneg (a := (T - 1) * r.Rays) (b := T) (Int.mul_nonneg (by omega) (by omega)) (by omega)
  have hq2 := Int.ediv_nonneg (a := T / 2 * r.Rays) (b := T) (Int.mul_nonneg (by omega) (by omega)) (by omega)
  obtain ⟨n, hn⟩ : ∃ n, F = n + 5 := ⟨F - 5, by omega⟩
  have st4 : law06_PlanTells_L4 F step r l s (A, z) (allD (pr r) (dj l) s) (i : Int) k2 (T, 0) (T - 1) ((T - 1) * r.Rays / T) (T / 2) (T / 2 * r.Rays / T) g (n + 1) ((4 : Nat) : Int) = some true := by
    simp only [law06_PlanTells_L4, law06_PlanTells_B4]
    rw [bifF (by rfl)]
    exact hz 0
  have st3 : law06_PlanTells_L4 F step r l s (A, z) (allD (pr r) (dj l) s) (i : Int) k2 (T, 0) (T - 1) ((T - 1) * r.Rays / T) (T / 2) (T / 2 * r.Rays / T) g (n + 2) ((3 : Nat) : Int) = some true := by
    simp only [law06_PlanTells_L4, law06_PlanTells_B4]
    rw [bifT (by rfl), getb default (by simp)]
    refine one (if g < T then g else T) (-1) ?_ ?_ ?_ _ 3 (by omega) st4
    · split <;> omega
    · split <;> omega
    · split
      · right; right; exact ⟨rfl, by omega⟩
      · right; left; exact ⟨rfl, rfl, by omega⟩
  have st2 : law06_PlanTells_L4 F step r l s (A, z) (allD (pr r) (dj l) s) (i : Int) k2 (T, 0) (T - 1) ((T - 1) * r.Rays / T) (T / 2) (T / 2 * r.Rays / T) g (n + 3) ((2 : Nat) : Int) = some true := by
    simp only [law06_PlanTells_L4, law06_PlanTells_B4]
    rw [bifT (by rfl), getb default (by simp)]
    exact one (T / 2) (T / 2 * r.Rays / T) (by omega) (by omega) (Or.inl ⟨rfl, by omega⟩) _ 2 (by omega) st3
  have st1 : law06_PlanTells_L4 F step r l s (A, z) (allD (pr r) (dj l) s) (i : Int) k2 (T, 0) (T - 1) ((T - 1) * r.Rays / T) (T / 2) (T / 2 * r.Rays / T) g (n + 4) ((1 : Nat) : Int) = some true := by
    simp only [law06_PlanTells_L4, law06_PlanTells_B4]
    rw [bifT (by rfl), getb default (by simp)]
    exact one (T - 1) ((T - 1) * r.Rays / T) (by omega) (by omega) (Or.inl ⟨rfl, by omega⟩) _ 1 (by omega) st2
  have st0 : law06_PlanTells_L4 F step r l s (A, z) (allD (pr r) (dj l) s) (i : Int) k2 (T, 0) (T - 1) ((T - 1) * r.Rays / T) (T / 2) (T / 2 * r.Rays / T) g (n + 5) ((0 : Nat) : Int) = some true := by
    simp only [law06_PlanTells_L4, law06_PlanTells_B4]
    rw [bifT (by rfl), getb default (by simp)]
    exact one 0 0 (by omega) (by omega) (Or.inl ⟨by simp, by omega⟩) _ 0 (by omega) st1
  rw [← hn] at st0
  exact st0
theorem tells_loop {F : Nat} (hF : 200 ≤ F) {r : plan_Radar} {l : List plan_Job} {s : List Int} (hS : OkS r l) (hs : okS l.length s) (hj : judgeE (pr r) (dj l) s = 0) (h1 : 1 ≤ s.length) (h12 : s.length ≤ 12) {step : Int} (hst : okB step) :
    ∀ n i : Nat, i ≤ s.length → s.length < n + i → law06_PlanTells_L2 F step r l s (atD (pr r) (dj l) (s ++ [s.getD 0 0]), true) (allD (pr r) (dj l) s) n (i : Int) = some true := by
  have hs' : okS (dj l).length s := by simpa using hs
  have hlen := atD_len (pr r) (dj l) s
  have hx0 := hs 0 (by omega)
  intro n
  induction n with
  | zero => intro i h1 h2; omega
  | succ n ih =>
    intro i hi0 hi
    simp only [law06_PlanTells_L2, law06_PlanTells_B2, law06_PlanTells_K1]
    by_cases hc : i < s.length
    · have hx := hs i hc
      have hT1 := tk_pos hS.L.hr hS.L.okJ (j := s.getD i 0) (by simpa using hx)
      have hT2 := hS.tk hx
      have hrb := radarOk_bd hS.L.hr
      simp only [pr] at hrb
      have hray := hS.y
      have hatb := atD_bd hS.L.hr hS.L.okJ s hs' i
      have hall : allD (pr r) (dj l) s ≤ s.length * 3100 + 33 := hS.start hs hx0
      have halb := allD_bd hS.L.hr hS.L.okJ hs' h1
      have hAl : (atD (pr r) (dj l) (s ++ [s.getD 0 0])).length = s.length + 1 := by rw [atD_len]; simp
      have hA : ∀ k, k < s.length → (atD (pr r) (dj l) (s ++ [s.getD 0 0])).getD k 0 = (atD (pr r) (dj l) s).getD k 0 := fun k hk => by
        rw [atD_snoc, getD_snoc_lt (by omega)]
      have hA2 : (atD (pr r) (dj l) (s ++ [s.getD 0 0])).getD (i + 1) 0 = if i + 1 < s.length then (atD (pr r) (dj l) s).getD (i + 1) 0 else allD (pr r) (dj l) s := by
        split
        · rename_i h; exact hA _ h
        · rw [atD_snoc, show i + 1 = (atD (pr r) (dj l) s).length by omega, getD_snoc_eq]; rfl
      have e : timeJ (pr r) (pj (l.getD (s.getD i 0).toNat default)) = tk (pr r) (dj l) (s.getD i 0) := by unfold tk; rw [← getD_map_pj (by omega) default]
      have hgb : 0 ≤ (if i + 1 < s.length then (atD (pr r) (dj l) s).getD (i + 1) 0 else allD (pr r) (dj l) s) ∧ (if i + 1 < s.length then (atD (pr r) (dj l) s).getD (i + 1) 0 else allD (pr r) (dj l) s) ≤ 200000000000 := by
        split
        · have := atD_bd hS.L.hr hS.L.okJ s hs' (i + 1); omega
        · omega
      have m1 := mul_bd (a := tk (pr r) (dj l) (s.getD i 0) - 1) (b := r.Rays) (A := 3000) (B := 8) (by omega) (by omega)
      have m2 := mul_bd (a := tk (pr r) (dj l) (s.getD i 0) / 2) (b := r.Rays) (A := 3000) (B := 8) (by omega) (by omega)
      rw [bifT (by simp; omega), getb 0 (by omega), Int.toNat_natCast, getb default (by omega), Time_valid (by omega) hS.L.hr (hS.L.get (by omega)), Option.bind_some, e]
      have hcnd : (bif (((tk (pr r) (dj l) (s.getD i 0), (0 : Int)).2) != 0) then true else decide ((tk (pr r) (dj l) (s.getD i 0), (0 : Int)).1 < 1)) = false := by
        show decide (tk (pr r) (dj l) (s.getD i 0) < 1) = false
        exact decide_eq_false (by omega)
      rw [bifF hcnd]
      simp only []
      rw [ckb (by omega), ckb (by omega), ckb (by omega), quob (by omega) (by omega), quob (by omega) (by omega), quob (by omega) (by omega), ckb (by omega), quob (by omega) (by omega), ckb (by omega), show (i : Int) + 1 = ((i + 1 : Nat) : Int) by omega, getb 0 (by omega), Int.toNat_natCast, getb 0 (by omega), Int.toNat_natCast, hA2, hA i hc, ckb (by omega), ckb (by omega)]
      exact tells_inner (by omega) hS hs hj h12 hst hc _ (hA i hc) (by omega) _ rfl rfl (ih (i + 1) (by omega) (by omega))
    · rw [bifF (by simp; omega), works_at' (by omega)]; rfl
theorem PlanTells_eq {F : Nat} {d : law06_Desk} (hd : OkD d) {rd : List Int} (hrd : ∀ x ∈ rd, okB x) {step : Int} (h1 : okB step) (hF : 300 ≤ F) (hF2 : d.Jobs.length < F) : law06_PlanTells F d rd step = some true := by
  rw [law06_PlanTells, guard12]
  by_cases hg : 1 ≤ rd.length ∧ rd.length ≤ 12
  · rw [decide_eq_true hg, Bool.not_true, cond_false]
    obtain ⟨r, hr, hrok, hduty, hturn, hmove, hrays⟩ := Desk_radar_eq (F := F) hd
    obtain ⟨l, hl, hlN, hl1⟩ := Desk_jobs_eq (F := F) hd hF2
    obtain ⟨s, hs, hslen, hsok⟩ := entries_eq (F := F) hrd (by omega) (by omega) (n := l.length) hl1
    have hl4 := hlN.n
    have hL := hlN.okL hrok hl1
    have hS : OkS r l := ⟨hL, hlN.j, hmove, hturn, hrays⟩
    have hx0 := hsok 0 (by omega)
    rw [hr, Option.bind_some, hl, Option.bind_some, hs, Option.bind_some, getb 0 (by omega), show (0 : Int).toNat = 0 from rfl, apdb (by simp; omega), List.nil_append, apdb (by simp; omega)]
    rw [lbegins_eq (by omega) hL (okS_snoc hsok hx0) (by simp; omega), Option.bind_some, Judge_eq (by omega), Option.bind_some]
    by_cases hj : judgeE (pr r) (dj l) s = 0
    · rw [bifF (by rw [hj]; rfl), bifF (by rfl)]
      have hlen := atD_len (pr r) (dj l) s
      simp only []
      rw [getb 0 (by rw [atD_len]; simp; omega), Int.toNat_natCast]
      rw [show (atD (pr r) (dj l) (s ++ [s.getD 0 0])).getD s.length 0 = allD (pr r) (dj l) s by rw [atD_snoc, ← hlen, getD_snoc_eq]; rfl]
      exact tells_loop (by omega) hS hsok hj (by omega) (by omega) h1 F 0 (by omega) (by omega)
    · have hj' : (judgeE (pr r) (dj l) s != 0) = true := by simpa using hj
      rw [bifT hj']
      obtain ⟨x, hx, hx2⟩ := Where_eq (F := F) (by omega) r l s 0
      unfold whereR at hx2
      rw [if_neg hj] at hx2
      subst hx2
      rw [hx, Option.bind_some]
      simp [gd, works_at' (F := F) (by omega)]
  · rw [decide_eq_false hg, Bool.not_false, cond_true, works_at' (by omega)]; rfl
end Go.Proofs.Ytejffembnkojjaa
