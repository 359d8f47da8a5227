/- Chapter 6, plain laws, part 7: the document's sequences and best round; the law PlanBests. -/
import Derived.Test.YtejffembnkojjaaC5XL5
import Derived.Test.YtejffembnkojjaaC5XL6
namespace Go.Proofs.Ytejffembnkojjaa
open Go Go.Eng Go.Plan
set_option linter.unusedVariables false
set_option linter.unusedSimpArgs false
set_option maxRecDepth 10000
/-! ### Sequences -/
theorem flatMap_len {R : List (List Int)} : ∀ l : List Nat, (l.flatMap fun j : Nat => R.map fun t => (j : Int) :: t).length = l.length * R.length
  | [] => by simp
  | a :: l => by rw [List.flatMap_cons, List.length_append, flatMap_len l, List.length_map, List.length_cons, Nat.succ_mul, Nat.add_comm]
theorem seq_inner {R : List (List Int)} (hR : ∀ t ∈ R, t.length ≤ 100) {j : Nat} (hj : j ≤ 100) (k2 : List (List Int) → Int → Option (List (List Int))) {pre : List (List Int)} (hp : pre.length + R.length ≤ 3000000) :
    ∀ n i : Nat, i ≤ R.length → R.length < n + i → ref06_sequences_L4 R (j : Int) k2 n (pre ++ (R.take i).map fun t => (j : Int) :: t) (i : Int) = k2 (pre ++ R.map fun t => (j : Int) :: t) ((j + 1 : Nat) : Int) := by
  intro n
  induction n with
  | zero => intro i h1 h2; omega
  | succ n ih =>
    intro i hi0 hi
    simp only [ref06_sequences_L4, ref06_sequences_B4, ref06_sequences_K3]
    by_cases hc : i < R.length
    · have hmem : R.getD i [] ∈ R := by rw [List.getD_eq_getElem?_getD, List.getElem?_eq_getElem hc]; exact List.getElem_mem hc
      have hlen := hR _ hmem
      rw [bifT (by simp; omega), getb [] (by omega), Int.toNat_natCast, apdb (by simp only [List.length_cons, List.length_nil]; omega), apdb (by simp; omega), ckb (by omega), show (i : Int) + 1 = ((i + 1 : Nat) : Int) by omega]
      have := ih (i + 1) (by omega) (by omega)
      rw [← map_take_snoc (d := []) hc, ← List.append_assoc] at this
      exact this
    · rw [bifF (by simp; omega), List.take_of_length_le (by omega), ckb (by omega), show (j : Int) + 1 = ((j + 1 : Nat) : Int) by omega]
theorem seq_outer {F : Nat} {R : List (List Int)} {N : Nat} (hN : N ≤ 100) (hR : ∀ t ∈ R, t.length ≤ 100) (hb : N * R.length ≤ 2500000) (hr : R.length ≤ 400000) (hF : R.length < F) :
    ∀ n j : Nat, j ≤ N → N < n + j → ref06_sequences_L2 F (N : Int) R n (((List.range N).take j).flatMap fun j : Nat => R.map fun t => (j : Int) :: t) (j : Int) = some ((List.range N).flatMap fun j : Nat => R.map fun t => (j : Int) :: t) := by
  intro n
  induction n with
  | zero => intro j h1 h2; omega
  | succ n ih =>
    intro j hj0 hj
    simp only [ref06_sequences_L2, ref06_sequences_B2, ref06_sequences_K1]
    by_cases hc : j < N
    · have hlen : (((List.range N).take j).flatMap fun j : Nat => R.map fun t => (j : Int) :: t).length = j * R.length := by
        rw [flatMap_len, List.length_take, List.length_range, Nat.min_eq_left (by omega)]
      have hmul : j * R.length ≤ N * R.length := Nat.mul_le_mul_right _ (by omega)
      have := seq_inner hR (j := j) (by omega) (ref06_sequences_L2 F (N : Int) R n) (pre := ((List.range N).take j).flatMap fun j : Nat => R.map fun t => (j : Int) :: t) (by omega) F 0 (by omega) (by omega)
      rw [List.take_zero, List.map_nil, List.append_nil] at this
      rw [bifT (by simp; omega)]
      refine Eq.trans this ?_
      have e : (((List.range N).take j).flatMap fun j : Nat => R.map fun t => (j : Int) :: t) ++ (R.map fun t => (j : Int) :: t) = ((List.range N).take (j + 1)).flatMap fun j : Nat => R.map fun t => (j : Int) :: t := by
        rw [← take_snoc (d := 0) (l := List.range N) (k := j) (by simpa using hc), List.flatMap_append]
        simp [List.getD_eq_getElem?_getD, hc]
      rw [e]
      exact ih (j + 1) (by omega) (by omega)
    · rw [bifF (by simp; omega), List.take_of_length_le (by simp; omega)]
theorem sequences_eq {N : Nat} (hN : N ≤ 6) : ∀ k F : Nat, k ≤ 8 → 500000 + k ≤ F → ref06_sequences F (N : Int) (k : Int) = some (seqs N k) := by
  intro k
  induction k with
  | zero =>
    intro F _ hF
    obtain ⟨F, rfl⟩ : ∃ G, F = G + 1 := ⟨F - 1, by omega⟩
    rfl
  | succ k ih =>
    intro F hk hF
    obtain ⟨F, rfl⟩ : ∃ G, F = G + 1 := ⟨F - 1, by omega⟩
    simp only [ref06_sequences, ref06_sequences_R]
    have hne : (((k + 1 : Nat) : Int) == 0) = false := by simp; omega
    rw [bifF hne, ckb (by omega), show ((k + 1 : Nat) : Int) - 1 = (k : Int) by omega, ih F (by omega) (by omega), Option.bind_some]
    have hl := seqs_len N k
    have h1 : N ^ k ≤ 6 ^ k := Nat.pow_le_pow_left hN k
    have h2 : 6 ^ k ≤ 6 ^ 7 := Nat.pow_le_pow_right (by omega) (by omega)
    have h3 : N * (seqs N k).length ≤ 6 * 6 ^ 7 := by rw [hl]; exact Nat.mul_le_mul hN (Nat.le_trans h1 h2)
    have e7 : (6 : Nat) ^ 7 = 279936 := by decide
    rw [e7] at h2 h3
    have := seq_outer (F := F) (R := seqs N k) (N := N) (by omega) (fun t ht => by have := (seqs_mem N k t ht).1; omega) (by omega) (by omega) (by omega) F 0 (by omega) (by omega)
    exact this
/-! ### The document's rounds that are kept -/
theorem rkept_loop {a : List Int} {e : Int} (h : a.length ≤ 1000) : ∀ n k : Nat, k ≤ a.length → a.length < n + k → ref06_kept_L2 (a, e) n (k : Int) = some ((a.drop k).all (fun x => decide (0 ≤ x)) && (e == 0)) := by
  intro n
  induction n with
  | zero => intro k h1 h2; omega
  | succ n ih =>
    intro k hk0 hk
    simp only [ref06_kept_L2, ref06_kept_B2, ref06_kept_K1]
    by_cases hc : k < a.length
    · have hd : a.drop k = a.getD k 0 :: a.drop (k + 1) := by
        rw [List.drop_eq_getElem_cons hc, List.getD_eq_getElem?_getD, List.getElem?_eq_getElem hc]; rfl
      rw [bifT (by simp; omega), getb 0 (by omega), Int.toNat_natCast, hd, List.all_cons]
      by_cases hz : a.getD k 0 < 0
      · rw [bifT (decide_eq_true hz), decide_eq_false (show ¬ 0 ≤ a.getD k 0 by omega)]; rfl
      · rw [bifF (decide_eq_false hz), decide_eq_true (show 0 ≤ a.getD k 0 by omega), ckb (by omega), show (k : Int) + 1 = ((k + 1 : Nat) : Int) by omega, ih (k + 1) (by omega) (by omega)]; rfl
    · rw [bifF (by simp; omega), List.drop_of_length_le (by omega)]; rfl
theorem slack_all {r : RadarD} {l : List JobD} {s : List Int} (hs : okS l.length s) (h0 : (gapsD r l s l.length).contains 0 = false) : (slackD r l s).all (fun x => decide (0 ≤ x)) = keptB r l s := by
  have hsl := slackD_len r l s
  have hgl := gapsD_len r l s l.length
  have h1 : (slackD r l s).all (fun x => decide (0 ≤ x)) = true ↔ keptB r l s = true := by
    rw [List.all_eq_true, keptB_iff hs]
    constructor
    · intro h i hi
      have hne : gapD r l s i ≠ 0 := by
        intro e
        rw [← gapsD_get r l s l.length hs i hi] at e
        rw [contains_get (by omega) e] at h0
        exact absurd h0 (by simp)
      have hm : (slackD r l s).getD i 0 ∈ slackD r l s := by
        rw [List.getD_eq_getElem?_getD, List.getElem?_eq_getElem (by omega)]; exact List.getElem_mem _
      have := h _ hm
      rw [slackD_get hs hi] at this
      simp only [decide_eq_true_eq] at this
      exact ⟨hne, by omega⟩
    · intro h x hx
      obtain ⟨i, hi, rfl⟩ := List.mem_iff_getElem.1 hx
      have := h i (by omega)
      have e : (slackD r l s)[i] = (slackD r l s).getD i 0 := by rw [List.getD_eq_getElem?_getD, List.getElem?_eq_getElem hi]; rfl
      rw [e, slackD_get hs (by omega)]
      simp only [decide_eq_true_eq]; omega
  cases h2 : keptB r l s with
  | true => exact h1.2 h2
  | false =>
    cases h3 : (slackD r l s).all (fun x => decide (0 ≤ x)) with
    | true => rw [h1.1 h3] at h2; exact absurd h2 (by simp)
    | false => rfl
/-- Whether a round is kept, or is none. -/
def keptJ (r : RadarD) (l : List JobD) (s : List Int) : Bool := (judgeL r l s).all (fun x => decide (0 ≤ x)) && (judgeE r l s == 0)
theorem keptJ_eq {r : RadarD} {l : List JobD} {s : List Int} (hc : checkE r l = 0) (hs : okS l.length s) (h1 : 1 ≤ s.length) (h12 : s.length ≤ 12) : keptJ r l s = keptB r l s := by
  unfold keptJ judgeL judgeE
  rw [if_pos hc, if_pos (inB_iff.2 (by omega)), if_pos (inS_iff.2 hs)]
  by_cases h0 : (gapsD r l s l.length).contains 0 = true
  · rw [if_pos h0]
    have : keptB r l s = false := by
      cases h : keptB r l s with
      | false => rfl
      | true =>
        rw [List.contains_iff_mem] at h0
        obtain ⟨i, hi, he⟩ := List.mem_iff_getElem.1 h0
        rw [gapsD_len] at hi
        have := ((keptB_iff hs).1 h i hi).1
        rw [← gapsD_get r l s l.length hs i hi, List.getD_eq_getElem?_getD, List.getElem?_eq_getElem (by rw [gapsD_len]; exact hi)] at this
        exact absurd he this
    rw [this]; simp
  · have h0' : (gapsD r l s l.length).contains 0 = false := by simpa using h0
    rw [if_neg h0]
    simp only [if_true]
    rw [slack_all hs h0']; simp
theorem ref_kept_eq {F : Nat} (hF : 130 ≤ F) (r : ref06_Radar) (l : List ref06_Job) (s : List Int) : ref06_kept F r l s = some (keptJ (rr r) (ej l) s) := by
  have hl := judgeL_len (r := rr r) (l := ej l) (s := s)
  rw [ref06_kept, ref_Judge_eq hF, Option.bind_some]
  exact rkept_loop (by omega) F 0 (by omega) (by omega)
theorem rbest_inner {F : Nat} (hF : 130 ≤ F) (r : ref06_Radar) (l : List ref06_Job) (x : Nat) (hx : x ≤ 100) (k2 : Int → Option (List Int × Int)) {ss : List (List Int)} (hss : ss.length ≤ 3000000) :
    ∀ n i : Nat, i ≤ ss.length → ss.length < n + i → ref06_Best_L4 F r l (x : Int) k2 ss n (i : Int) = match (ss.drop i).find? (keptJ (rr r) (ej l)) with | some s => some (s, 0) | none => k2 ((x + 1 : Nat) : Int) := by
  intro n
  induction n with
  | zero => intro i h1 h2; omega
  | succ n ih =>
    intro i hi0 hi
    simp only [ref06_Best_L4, ref06_Best_B4, ref06_Best_K3]
    by_cases hc : i < ss.length
    · have hd : ss.drop i = ss.getD i [] :: ss.drop (i + 1) := by
        rw [List.drop_eq_getElem_cons hc, List.getD_eq_getElem?_getD, List.getElem?_eq_getElem hc]; rfl
      rw [bifT (by simp; omega), getb [] (by omega), Int.toNat_natCast, ref_kept_eq hF, Option.bind_some, hd, List.find?_cons]
      cases hk : keptJ (rr r) (ej l) (ss.getD i []) with
      | true => rw [bifT rfl, getb [] (by omega), Int.toNat_natCast]
      | false => rw [bifF rfl, ckb (by omega), show (i : Int) + 1 = ((i + 1 : Nat) : Int) by omega, ih (i + 1) (by omega) (by omega)]
    · rw [bifF (by simp; omega), List.drop_of_length_le (by omega), ckb (by omega), show (x : Int) + 1 = ((x + 1 : Nat) : Int) by omega]; rfl
theorem find_congr {p q : List Int → Bool} : ∀ (l : List (List Int)), (∀ s ∈ l, p s = q s) → l.find? p = l.find? q
  | [], _ => rfl
  | a :: l, h => by rw [List.find?_cons, List.find?_cons, h a (by simp), find_congr l (fun s hs => h s (by simp [hs]))]
theorem rbest_loop {F : Nat} (hF : 2000000 ≤ F) {r : ref06_Radar} {l : List ref06_Job} (hc0 : checkE (rr r) (ej l) = 0) {most : Nat} (hm : most ≤ 8) :
    ∀ n k : Nat, 1 ≤ k → k ≤ most + 1 → most + 1 < n + k → ref06_Best_L2 F r l (most : Int) n (k : Int) = some (bestFrom (keptB (rr r) (ej l)) l.length (most + 1 - k) k) := by
  have h6 := (checkE_ok hc0).2.1
  rw [ejl] at h6
  intro n
  induction n with
  | zero => intro k h1 h2 h3; omega
  | succ n ih =>
    intro k hk1 hk0 hk
    simp only [ref06_Best_L2, ref06_Best_B2, ref06_Best_K1]
    by_cases hc : k ≤ most
    · have hlen := seqs_len l.length k
      have h1 : l.length ^ k ≤ 6 ^ k := Nat.pow_le_pow_left h6.2 k
      have h2 : 6 ^ k ≤ 6 ^ 8 := Nat.pow_le_pow_right (by omega) (by omega)
      have e8 : (6 : Nat) ^ 8 = 1679616 := by decide
      rw [e8] at h2
      have hin := rbest_inner (F := F) (by omega) r l k (by omega) (ref06_Best_L2 F r l (most : Int) n) (ss := seqs l.length k) (by omega) F 0 (by omega) (by omega)
      rw [List.drop_zero, find_congr (seqs l.length k) (fun s hs => by
        obtain ⟨h3, h4⟩ := seqs_mem _ _ _ hs
        exact keptJ_eq hc0 (by simpa using h4) (by omega) (by omega))] at hin
      rw [bifT (by simp; omega), sequences_eq h6.2 k F (by omega) (by omega), Option.bind_some]
      refine Eq.trans hin ?_
      rw [show most + 1 - k = (most - k) + 1 by omega, bestFrom]
      cases (seqs l.length k).find? (keptB (rr r) (ej l)) with
      | some s => rfl
      | none =>
        have := ih (k + 1) (by omega) (by omega) (by omega)
        rw [show most + 1 - (k + 1) = most - k by omega] at this
        exact this
    · rw [bifF (by simp; omega), show most + 1 - k = 0 by omega]; rfl
theorem ref_Best_eq {F : Nat} (hF : 2000000 ≤ F) (r : ref06_Radar) (l : List ref06_Job) (most : Int) : ref06_Best F r l most = some (bestR (rr r) (ej l) most) := by
  rw [ref06_Best, ref06_Check_eq (by omega), Option.bind_some, rin]
  unfold bestR
  by_cases hc : checkE (rr r) (ej l) = 0
  · rw [bifF (by simp [hc]), if_pos hc]
    by_cases hm : inB most 1 8 = true
    · have hm' := inB_iff.1 hm
      rw [bifF (by rw [hm]; rfl), if_pos hm]
      have := rbest_loop hF hc (most := most.toNat) (by omega) F 1 (by omega) (by omega) (by omega)
      rw [show ((most.toNat : Nat) : Int) = most by omega, Nat.add_sub_cancel] at this
      rw [ejl]
      exact this
    · rw [bifT (by simp [hm]), if_neg hm]
  · rw [bifT (by simp [hc]), if_neg hc]
/-! ### The law -/
theorem few_loop {n most : Nat} (hn : n ≤ 100) (hm : most ≤ 8) : ∀ m i : Nat, i ≤ most → most < m + i → ∀ k : Int, 0 ≤ k ∧ k ≤ 250 → ∃ b, law06_few_L2 (n : Int) (most : Int) 250 m k (i : Int) = some b := by
  intro m
  induction m with
  | zero => intro i h1 h2; omega
  | succ m ih =>
    intro i hi0 hi k hk
    simp only [law06_few_L2, law06_few_B2, law06_few_K1]
    by_cases hc : i < most
    · have := mul_bd (a := k) (b := (n : Int)) (A := 250) (B := 100) hk (by omega)
      rw [bifT (by simp; omega), ckb (by omega)]
      by_cases hg : k * (n : Int) > 250
      · rw [bifT (decide_eq_true hg)]; exact ⟨_, rfl⟩
      · rw [bifF (decide_eq_false hg), ckb (by omega), show (i : Int) + 1 = ((i + 1 : Nat) : Int) by omega]
        exact ih (i + 1) (by omega) (by omega) _ (by omega)
    · rw [bifF (by simp; omega)]; exact ⟨_, rfl⟩
theorem few_some {F n : Nat} (hF : 100 ≤ F) (hn : n ≤ 100) (most : Int) : ∃ b, law06_few F (n : Int) most 250 = some b := by
  rw [law06_few]
  by_cases h : (bif decide (most < 1) then true else decide (most > 8)) = true
  · rw [bifT h]; exact ⟨_, rfl⟩
  · rw [bifF (by simpa using h)]
    have h2 : 1 ≤ most ∧ most ≤ 8 := by
      simp only [Bool.cond_eq_ite] at h
      by_cases h1 : most < 1
      · simp [h1] at h
      · simp [h1] at h; omega
    have := few_loop (n := n) (most := most.toNat) hn (by omega) F 0 (by omega) (by omega) 1 (by omega)
    rw [show ((most.toNat : Nat) : Int) = most by omega] at this
    exact this
theorem bestFrom_len {K : List Int → Bool} {N : Nat} : ∀ c n, n + c ≤ 9 → (bestFrom K N c n).1.length ≤ 8
  | 0, n, _ => by simp [bestFrom]
  | c + 1, n, h => by
    rw [bestFrom]
    cases hf : (seqs N n).find? K with
    | some s =>
      have := (seqs_mem _ _ _ (List.mem_of_find?_eq_some hf)).1
      show s.length ≤ 8
      omega
    | none => exact bestFrom_len c (n + 1) (by omega)
theorem bestR_len (r : RadarD) (l : List JobD) (most : Int) : (bestR r l most).1.length ≤ 8 := by
  unfold bestR
  split
  · split
    · rename_i h
      have := inB_iff.1 h
      exact bestFrom_len _ _ (by omega)
    · simp
  · simp
theorem PlanBests_eq {F : Nat} (hF : 2000000 ≤ F) (r : ref06_Radar) (l : List ref06_Job) (most : Int) : law06_PlanBests F r l most = some true := by
  have hw := works_at (F := F) (by omega)
  rw [law06_PlanBests]
  by_cases hl : ((l.length : Nat) : Int) > 10
  · have hd : decide (((l.length : Nat) : Int) > 10) = true := decide_eq_true hl
    simp only [hd, gd]
    rw [show ((true == false && true) = false) from rfl, cond_false, Option.bind_some, bifT (c := bif true then true else _) rfl, hw]; rfl
  · have hd : decide (((l.length : Nat) : Int) > 10) = false := decide_eq_false hl
    obtain ⟨b, hb⟩ := few_some (F := F) (n := l.length) (by omega) (by omega) most
    simp only [hd, gd, hb]
    rw [show ((false == false && true) = true) from rfl, cond_true, Option.bind_some]
    cases b with
    | false => rw [bifT (c := bif false then true else !false) rfl, hw]; rfl
    | true =>
      rw [bifF (c := bif false then true else !true) rfl, jobs_eq (by omega) (by omega), Option.bind_some, Best_eq (by omega), Option.bind_some, ref_Best_eq hF, Option.bind_some, dj_jobs]
      rw [show pr (plan_Radar.mk r.Rays r.Turn r.Move r.Duty) = rr r from rfl]
      have hlen := bestR_len (rr r) (ej l) most
      rw [numbers_self (by omega) (by omega), Option.bind_some]
      simp [hw]
end Go.Proofs.Ytejffembnkojjaa
