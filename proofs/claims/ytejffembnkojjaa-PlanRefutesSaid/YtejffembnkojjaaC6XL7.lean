/- Chapter 6, plain laws, part 7: the document's sequences and best round; the law PlanBests. -/
import Derived.Test.YtejffembnkojjaaC6XL5
import Derived.Test.YtejffembnkojjaaC6XL6
namespace Go.Proofs.Ytejffembnkojjaa
open Go Go.Eng Go.Plan
set_option linter.unusedVariables false
set_option linter.unusedSimpArgs false
set_option maxRecDepth 10000
/-! ### Sequences -/
theorem flatMap_len {R : List (List Int)} : ∀ l : List Nat, (l.flatMap fun j : Nat => R.map fun t => (j : Int) :: t).length = l.length * R.length
  | [] => by simp
  | a :: l => by rw [List.flatMap_cons, List.length_append, flatMap_len l, List.length_map, List.length_cons, Nat.succ_mul, Nat.add_comm]
theorem seq_inner {R : List (List Int)} (hR : ∀ t ∈ R, t.length ≤ 100) {j : Nat} (hj : j ≤ 100) (k2 : List (List Int) → Int → Option (List (List Int))) {pre : List (List Int)} (hp : pre.length + R.length ≤ 3000000) :
    ∀ n i : Nat, i ≤ R.length → R.length < n + i → ref06_sequences_L4 R (j : Int) k2 n (pre ++ (R.take i).map fun t => (j : Int) :: t) (i : Int) = k2 (pre ++ R.map fun t => (j : Int) :: t) ((j + 1 : Nat) : Int) := by
  intro n
  induction n with
  | zero => intro i h1 h2; omega
  | succ n ih =>
    intro i hi0 hi
    simp only [ref06_sequences_L4, ref06_sequences_B4, ref06_sequences_K3]
    by_cases hc : i < R.length
    · have hmem : R.getD i [] ∈ R := by rw [List.getD_eq_getElem?_getD, List.getElem?_eq_getElem hc]; exact List.getElem_mem hc
      have hlen := hR _ hmem
      rw [bifT (by simp; omega), getb [] (by omega), Int.toNat_natCast, apdb (by simp only [List.length_cons, List.length_nil]; omega), apdb (by simp; omega), ckb (by omega), show (i : Int) + 1 = ((i + 1 : Nat) : Int) by omega]
      have := ih (i + 1) (by omega) (by omega)
      rw [← map_take_snoc (d := []) hc, ← List.append_assoc] at this
      exact this
    · rw [bifF (by simp; omega), List.take_of_length_le (by omega), ckb (by omega), show (j : Int) + 1 = ((j + 1 : Nat) : Int) by omega]
theorem seq_outer {F : Nat} {R : List (List Int)} {N : Nat} (hN : N ≤ 100) (hR : ∀ t ∈ R, t.length ≤ 100) (hb : N * R.length ≤ 2500000) (hr : R.length ≤ 400000) (hF : R.length < F) :
    ∀ n j : Nat, j ≤ N → N < n + j → ref06_sequences_L2 F (N : Int) R n (((List.range N).take j).flatMap fun j : Nat => R.map fun t => (j : Int) :: t) (j : Int) = some ((List.range N).flatMap fun j : Nat => R.map fun t => (j : Int) :: t) := by
  intro n
  induction n with
  | zero => intro j h1 h2; omega
  | succ n ih =>
    intro j hj0 hj
    simp only [ref06_sequences_L2, ref06_sequences_B2, ref06_sequences_K1]
    by_cases hc : j < N
    · have hlen : (((List.range N).take j).flatMap fun j : Nat => R.map fun t => (j : Int) :: t).length = j * R.length := by
        rw [flatMap_len, List.length_take, List.length_range, Nat.min_eq_left (by omega)]
      have hmul : j * R.length ≤ N * R.length := Nat.mul_le_mul_right _ (by omega)
      have := seq_inner hR (j := j) (by omega) (ref06_sequences_L2 F (N : Int) R n) (pre := ((List.range N).take j).flatMap fun j : Nat => R.map fun t => (j : Int) :: t) (by omega) F 0 (by omega) (by omega)
      rw [List.take_zero, List.map_nil, List.append_nil] at this
      rw [bifT (by simp; omega)]
      refine Eq.trans this ?_
      have e : (((List.range N).take j).flatMap fun j : Nat => R.map fun t => (j : Int) :: t) ++ (R.map fun t => (j : Int) :: t) = ((List.range N).take (j + 1)).flatMap fun j : Nat => R.map fun t => (j : Int) :: t := by
        rw [← take_snoc (d := 0) (l := List.range N) (k := j) (by simpa using hc), List.flatMap_append]
        simp [List.getD_eq_getElem?_getD, hc]
      rw [e]
      exact ih (j + 1) (by omega) (by omega)
    · rw [bifF (by simp; omega), List.take_of_length_le (by simp; omega)]
theorem sequences_eq {N : Nat} (hN : N ≤ 6) : ∀ k F : Nat, k ≤ 8 → 500000 + k ≤ F → ref06_sequences F (N : Int) (k : Int) = some (seqs N k) := by
  intro k
  induction k with
  | zero =>
    intro F _ hF
    obtain ⟨F, rfl⟩ : ∃ G, F = G + 1 := ⟨F - 1, by omega⟩
    rfl
  | succ k ih =>
    intro F hk hF
    obtain ⟨F, rfl⟩ : ∃ G, F = G + 1 := ⟨F - 1, by omega⟩
    simp only [ref06_sequences, ref06_sequences_R]
    have hne : (((k + 1 : Nat) : Int) == 0) = false := by simp; omega
    rw [bifF hne, ckb (by omega), show ((k + 1 : Nat) : Int) - 1 = (k : Int) by omega, ih F (by omega) (by omega), Option.bind_some]
    have hl := seqs_len N k
    have h1 : N ^ k ≤ 6 ^ k := Nat.pow_le_pow_left hN k
    have h2 : 6 ^ k ≤ 6 ^ 7 := Nat.pow_le_pow_right (by omega) (by omega)
    have h3 : N * (seqs N k).length ≤ 6 * 6 ^ 7 := by rw [hl]; exact Nat.mul_le_mul hN (Nat.le_trans h1 h2)
    have e7 : (6 : Nat) ^ 7 = 279936 := by decide
    rw [e7] at h2 h3
    have := seq_outer (F := F) (R := seqs N k) (N := N) (by omega) (fun t ht => by have := (seqs_mem N k t ht).1; omega) (by omega) (by omega) (by omega) F 0 (by omega) (by omega)
    exact this
/-! ### The document's rounds that are kept -/
/-! ### The law -/
theorem few_loop {n most : Nat} (hn : n ≤ 100) (hm : most ≤ 8) : ∀ m i : Nat, i ≤ most → most < m + i → ∀ k : Int, 0 ≤ k ∧ k ≤ 250 → ∃ b, law06_few_L2 (n : Int) (most : Int) 250 m k (i : Int) = some b := by
  intro m
  induction m with
  | zero => intro i h1 h2; omega
  | succ m ih =>
    intro i hi0 hi k hk
    simp only [law06_few_L2, law06_few_B2, law06_few_K1]
    by_cases hc : i < most
    · have := mul_bd (a := k) (b := (n : Int)) (A := 250) (B := 100) hk (by omega)
      rw [bifT (by simp; omega), ckb (by omega)]
      by_cases hg : k * (n : Int) > 250
      · rw [bifT (decide_eq_true hg)]; exact ⟨_, rfl⟩
      · rw [bifF (decide_eq_false hg), ckb (by omega), show (i : Int) + 1 = ((i + 1 : Nat) : Int) by omega]
        exact ih (i + 1) (by omega) (by omega) _ (by omega)
    · rw [bifF (by simp; omega)]; exact ⟨_, rfl⟩
theorem few_some {F n : Nat} (hF : 100 ≤ F) (hn : n ≤ 100) (most : Int) : ∃ b, law06_few F (n : Int) most 250 = some b := by
  rw [law06_few]
  by_cases h : (bif decide (most < 1) then true else decide (most > 8)) = true
  · rw [bifT h]; exact ⟨_, rfl⟩
  · rw [bifF (by simpa using h)]
    have h2 : 1 ≤ most ∧ most ≤ 8 := by
      simp only [Bool.cond_eq_ite] at h
      by_cases h1 : most < 1
      · simp [h1] at h
      · simp [h1] at h; omega
    have := few_loop (n := n) (most := most.toNat) hn (by omega) F 0 (by omega) (by omega) 1 (by omega)
    rw [show ((most.toNat : Nat) : Int) = most by omega] at this
    exact this
end Go.Proofs.Ytejffembnkojjaa
