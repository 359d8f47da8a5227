/- Chapter 6, plain laws, part 14: one more sweep, on the plain program. -/
import Derived.Test.YtejffembnkojjaaC12XL8
import Derived.Test.YtejffembnkojjaaC12PlanW
import Derived.Test.YtejffembnkojjaaC12PlanT
namespace Go.Proofs.Ytejffembnkojjaa
open Go Go.Eng Go.Plan
set_option linter.unusedVariables false
set_option linter.unusedSimpArgs false
set_option maxRecDepth 10000
/-! ### The least number -/
theorem min_loop {a : List Int} (h : a.length ≤ 1000) : ∀ n k : Nat, k ≤ a.length → a.length < n + k → ∀ m, ∃ x, slices_Min_int_int_L3 a n m (k : Int) = some x ∧ (x < 0 ↔ m < 0 ∨ ∃ y ∈ a.drop k, y < 0) := by
  intro n
  induction n with
  | zero => intro k h1 h2; omega
  | succ n ih =>
    intro k hk0 hk m
    simp only [slices_Min_int_int_L3, slices_Min_int_int_B3, slices_Min_int_int_K2]
    by_cases hc : k < a.length
    · have hd : a.drop k = a.getD k 0 :: a.drop (k + 1) := by
        rw [List.drop_eq_getElem_cons hc, List.getD_eq_getElem?_getD, List.getElem?_eq_getElem hc]; rfl
      rw [bifT (by simp; omega), getb 0 (by omega), Int.toNat_natCast, ckb (by omega), show (k : Int) + 1 = ((k + 1 : Nat) : Int) by omega]
      obtain ⟨x, h1, h2⟩ := ih (k + 1) (by omega) (by omega) (if a.getD k 0 < m then a.getD k 0 else m)
      refine ⟨x, h1, h2.trans ?_⟩
      rw [hd]
      constructor
      · rintro (h | ⟨y, hy, h⟩)
        · split at h
          · exact Or.inr ⟨_, by simp, h⟩
          · exact Or.inl h
        · exact Or.inr ⟨y, by simp [hy], h⟩
      · rintro (h | ⟨y, hy, h⟩)
        · left; split <;> omega
        · rcases List.mem_cons.1 hy with rfl | hy
          · left; split <;> omega
          · exact Or.inr ⟨y, hy, h⟩
    · rw [bifF (by simp; omega), List.drop_of_length_le (by omega)]
      exact ⟨m, rfl, by simp⟩
theorem min_eq {F : Nat} {a : List Int} (h1 : 1 ≤ a.length) (h : a.length ≤ 1000) (hF : 1100 ≤ F) : ∃ x, slices_Min_int_int F a = some x ∧ (x < 0 ↔ ∃ y ∈ a, y < 0) := by
  rw [slices_Min_int_int, bifF (by simp; omega), slices_Min_int_int_K1, getb 0 (by omega), show (0 : Int).toNat = 0 from rfl]
  obtain ⟨x, h2, h3⟩ := min_loop h F 1 (by omega) (by omega) (a.getD 0 0)
  refine ⟨x, h2, h3.trans ?_⟩
  have hd : a = a.getD 0 0 :: a.drop 1 := by
    have := List.drop_eq_getElem_cons (l := a) (i := 0) (by omega)
    rw [List.drop_zero] at this
    rw [List.getD_eq_getElem?_getD, List.getElem?_eq_getElem (by omega)]; exact this
  constructor
  · rintro (h | ⟨y, hy, h⟩)
    · exact ⟨_, by rw [hd]; simp, h⟩
    · exact ⟨y, List.mem_of_mem_drop hy, h⟩
  · rintro ⟨y, hy, h⟩
    rw [hd] at hy
    rcases List.mem_cons.1 hy with rfl | hy
    · exact Or.inl h
    · exact Or.inr ⟨y, hy, h⟩
/-! ### Where a job lies around an element -/
structure Around (s : List Int) (j : Int) (m p q : Nat) : Prop where
  p1 : p < m
  p2 : (rp s 4).getD p 0 = j
  p3 : ∀ k, p < k → k < m → (rp s 4).getD k 0 ≠ j
  p4 : m ≤ p + s.length
  q1 : m ≤ q
  q2 : (rp s 4).getD q 0 = j
  q3 : ∀ k, m ≤ k → k < q → (rp s 4).getD k 0 ≠ j
  q4 : q < m + s.length
theorem down_ex (P : Nat → Prop) [DecidablePred P] : ∀ m p0 : Nat, p0 < m → P p0 → ∃ p, p0 ≤ p ∧ p < m ∧ P p ∧ ∀ k, p < k → k < m → ¬ P k := by
  intro m
  induction m with
  | zero => intro p0 h; omega
  | succ m ih =>
    intro p0 h hp
    by_cases hm : P m
    · exact ⟨m, by omega, by omega, hm, fun k h1 h2 => by omega⟩
    · have : p0 ≠ m := fun e => hm (e ▸ hp)
      obtain ⟨p, h1, h2, h3, h4⟩ := ih p0 (by omega) hp
      exact ⟨p, h1, by omega, h3, fun k k1 k2 => by
        rcases Nat.lt_or_eq_of_le (show k ≤ m by omega) with h | h
        · exact h4 k k1 h
        · subst h; exact hm⟩
theorem up_ex (P : Nat → Prop) [DecidablePred P] (m : Nat) : ∀ d q0 : Nat, q0 = m + d → P q0 → ∃ q, m ≤ q ∧ q ≤ q0 ∧ P q ∧ ∀ k, m ≤ k → k < q → ¬ P k := by
  intro d
  induction d with
  | zero => intro q0 h hq; exact ⟨q0, by omega, Nat.le_refl _, hq, fun k h1 h2 => by omega⟩
  | succ d ih =>
    intro q0 h hq
    by_cases hm : ∃ k, m ≤ k ∧ k < q0 ∧ P k
    · obtain ⟨k, h1, h2, h3⟩ := hm
      have : ∀ d k, k = m + d → P k → k < q0 → ∃ q, m ≤ q ∧ q ≤ q0 ∧ P q ∧ ∀ k, m ≤ k → k < q → ¬ P k := by
        intro d
        induction d using Nat.strongRecOn with
        | _ d ihd =>
          intro k hk hP hlt
          by_cases h5 : ∃ k', m ≤ k' ∧ k' < k ∧ P k'
          · obtain ⟨k', a1, a2, a3⟩ := h5
            exact ihd (k' - m) (by omega) k' (by omega) a3 (by omega)
          · exact ⟨k, by omega, by omega, hP, fun k' a1 a2 a3 => h5 ⟨k', a1, a2, a3⟩⟩
      exact this (k - m) k (by omega) h3 h2
    · exact ⟨q0, by omega, Nat.le_refl _, hq, fun k a1 a2 a3 => hm ⟨k, a1, a2, a3⟩⟩
theorem around_ex {s : List Int} (h1 : 1 ≤ s.length) {j : Int} (hj : j ∈ s) {m : Nat} (hm : s.length ≤ m) (hm2 : m ≤ 2 * s.length) : ∃ p q, Around s j m p q := by
  obtain ⟨t, ht, he⟩ := List.mem_iff_getElem.1 hj
  have ht2 : s.getD t 0 = j := by rw [List.getD_eq_getElem?_getD, List.getElem?_eq_getElem ht]; exact he
  have hget : ∀ k, k < 4 * s.length → (rp s 4).getD k 0 = s.getD (k % s.length) 0 := fun k hk => rp_get h1 4 k hk
  -- an index of j within each whole turn
  have hturn : ∀ a, a + s.length ≤ 4 * s.length → ∃ k, a ≤ k ∧ k < a + s.length ∧ (rp s 4).getD k 0 = j := by
    intro a ha
    have hmod := Nat.mod_lt a (show 0 < s.length by omega)
    have hda := Nat.div_add_mod a s.length
    by_cases hc : a % s.length ≤ t
    · refine ⟨a + (t - a % s.length), by omega, by omega, ?_⟩
      rw [hget _ (by omega)]
      have e : (a + (t - a % s.length)) % s.length = t := by
        have : a + (t - a % s.length) = t + s.length * (a / s.length) := by omega
        rw [this, Nat.add_mul_mod_self_left, Nat.mod_eq_of_lt ht]
      rw [e, ht2]
    · refine ⟨a + (t + s.length - a % s.length), by omega, by omega, ?_⟩
      rw [hget _ (by omega)]
      have e : (a + (t + s.length - a % s.length)) % s.length = t := by
        have : a + (t + s.length - a % s.length) = t + s.length * (a / s.length + 1) := by rw [Nat.mul_add]; omega
        rw [this, Nat.add_mul_mod_self_left, Nat.mod_eq_of_lt ht]
      rw [e, ht2]
  obtain ⟨p0, a1, a2, a3⟩ := hturn (m - s.length) (by omega)
  obtain ⟨q0, b1, b2, b3⟩ := hturn m (by omega)
  obtain ⟨p, c1, c2, c3, c4⟩ := down_ex (fun k => (rp s 4).getD k 0 = j) m p0 (by omega) a3
  obtain ⟨q, d1, d2, d3, d4⟩ := up_ex (fun k => (rp s 4).getD k 0 = j) m (q0 - m) q0 (by omega) b3
  exact ⟨p, q, c2, c3, c4, by omega, d1, d3, d4, by omega⟩
/-! ### What a round can bear -/
def bearsB (r : RadarD) (l : List JobD) (e : JobD) (s : List Int) (m : Nat) : Bool := (List.range l.length).all fun j : Nat => decide (gap2J (occ j (insS s l.length m) (atD r (l ++ [e]) (insS s l.length m))) ≤ (l.getD j default).every)
theorem remN {a b : Nat} (hb : 0 < b) {x : Int} (hx : x = (a : Int)) : remC x (b : Int) = some (((a % b : Nat)) : Int) := by
  subst hx
  rw [rem1 (by omega) (by omega)]; rfl
theorem bears_up {F : Nat} {r : plan_Radar} {l : List plan_Job} {s : List Int} {D : Int} {j : Nat} (k2 : Int → Option Bool) {m p q : Nat} (h1 : 1 ≤ s.length) (h12 : s.length ≤ 12) (hA : Around s j m p q) (hm : s.length ≤ m) (hm2 : m ≤ 2 * s.length) (x : Int) :
    ∀ d n k : Nat, k + d = q → m ≤ k → d < n → plan_line_bears_L8 F (lineP r l s) D (deskP r l) (j : Int) k2 x n ((k : Int) - s.length) = plan_line_bears_K5 F (lineP r l s) D (deskP r l) (j : Int) k2 x ((q : Int) - s.length) := by
  have hq4 := hA.q4
  intro d
  induction d with
  | zero =>
    intro n k hk hmk hn
    obtain ⟨n, rfl⟩ : ∃ c, n = c + 1 := ⟨n - 1, by omega⟩
    have hkq : k = q := by omega
    subst hkq
    simp only [plan_line_bears_L8, plan_line_bears_B8, show (lineP r l s).jobs = s from rfl]
    have hmod := Nat.mod_lt (k - s.length) (show 0 < s.length by omega)
    have e : (k - s.length) % s.length = k % s.length := by
      conv => rhs; rw [show k = (k - s.length) + s.length by omega, Nat.add_mod_right]
    rw [remN (a := k - s.length) (by omega) (by omega), Option.bind_some, getb 0 (by omega), Int.toNat_natCast, e, ← rp_get h1 4 k (by omega), hA.q2, bifF (by simp)]
  | succ d ih =>
    intro n k hk hmk hn
    obtain ⟨n, rfl⟩ : ∃ c, n = c + 1 := ⟨n - 1, by omega⟩
    simp only [plan_line_bears_L8, plan_line_bears_B8, show (lineP r l s).jobs = s from rfl]
    have hmod := Nat.mod_lt (k - s.length) (show 0 < s.length by omega)
    have e : (k - s.length) % s.length = k % s.length := by
      conv => rhs; rw [show k = (k - s.length) + s.length by omega, Nat.add_mod_right]
    have hne := hA.q3 k hmk (by omega)
    rw [remN (a := k - s.length) (by omega) (by omega), Option.bind_some, getb 0 (by omega), Int.toNat_natCast, e, ← rp_get h1 4 k (by omega), bifT (by simpa using hne), ckb (by omega), show (k : Int) - s.length + 1 = ((k + 1 : Nat) : Int) - s.length by omega]
    exact ih n (k + 1) (by omega) (by omega) (by omega)
theorem bears_down {F : Nat} {r : plan_Radar} {l : List plan_Job} {s : List Int} {D : Int} {j : Nat} (k2 : Int → Option Bool) {m p q : Nat} (h1 : 1 ≤ s.length) (h12 : s.length ≤ 12) (hA : Around s j m p q) (hm : s.length ≤ m) (hm2 : m ≤ 2 * s.length) (y : Int) :
    ∀ d n k : Nat, p + d = k → k < m → d < n → plan_line_bears_L9 F (lineP r l s) D (deskP r l) (j : Int) k2 y n ((k : Int) - s.length) = plan_line_bears_K4 F (lineP r l s) D (deskP r l) (j : Int) k2 y ((p : Int) - s.length) := by
  intro d
  induction d with
  | zero =>
    intro n k hk hmk hn
    obtain ⟨n, rfl⟩ : ∃ c, n = c + 1 := ⟨n - 1, by omega⟩
    have hkp : k = p := by omega
    subst hkp
    simp only [plan_line_bears_L9, plan_line_bears_B9, show (lineP r l s).jobs = s from rfl]
    have hmod := Nat.mod_lt k (show 0 < s.length by omega)
    rw [ckb (by omega), remN (a := k) (by omega) (by omega), Option.bind_some, getb 0 (by omega), Int.toNat_natCast, ← rp_get h1 4 k (by omega), hA.p2, bifF (by simp)]
  | succ d ih =>
    intro n k hk hmk hn
    obtain ⟨n, rfl⟩ : ∃ c, n = c + 1 := ⟨n - 1, by omega⟩
    simp only [plan_line_bears_L9, plan_line_bears_B9, show (lineP r l s).jobs = s from rfl]
    have hmod := Nat.mod_lt k (show 0 < s.length by omega)
    have hne := hA.p3 k (by omega) hmk
    rw [ckb (by omega), remN (a := k) (by omega) (by omega), Option.bind_some, getb 0 (by omega), Int.toNat_natCast, ← rp_get h1 4 k (by omega), bifT (by simpa using hne), ckb (by omega), show (k : Int) - s.length - 1 = ((k - 1 : Nat) : Int) - s.length by omega]
    exact ih n (k - 1) (by omega) (by omega) (by omega)
theorem bears_K5 {F : Nat} {r : plan_Radar} {l : List plan_Job} (h : OkL r l) {s : List Int} (hs : okS l.length s) (h1 : 1 ≤ s.length) (h12 : s.length ≤ 12) {D : Int} (hD : -10000000000 ≤ D ∧ D ≤ 10000000000) {j : Nat} (hj : j < l.length) (k2 : Int → Option Bool) {m p q : Nat} (hA : Around s j m p q) (hm : s.length ≤ m) (hm2 : m ≤ 2 * s.length) (hmp : s.length + 1 ≤ m) :
    plan_line_bears_K5 F (lineP r l s) D (deskP r l) (j : Int) k2 ((p : Int) - s.length) ((q : Int) - s.length) =
      if (atD (pr r) (dj l) (rp s 4)).getD q 0 - (atD (pr r) (dj l) (rp s 4)).getD p 0 + D ≤ ((dj l).getD j default).every then k2 ((j + 1 : Nat) : Int) else some false := by
  have h6 := h.h6
  have hs' : okS (dj l).length s := by simpa using hs
  have hall := all_eq (F := F) h hs h1 (by omega)
  have halb := allD_bd h.hr h.okJ hs' h1
  have hal := atD_len (pr r) (dj l) s
  have hmp2 := Nat.mod_lt p (show 0 < s.length by omega)
  have hmq := Nat.mod_lt q (show 0 < s.length by omega)
  have b1 := atD_bd h.hr h.okJ s hs' (p % s.length)
  have b2 := atD_bd h.hr h.okJ s hs' (q % s.length)
  have hp1 := hA.p1
  have hq1 := hA.q1
  have hq4 := hA.q4
  have eq1 : (q - s.length) % s.length = q % s.length := by
    conv => rhs; rw [show q = (q - s.length) + s.length by omega, Nat.add_mod_right]
  have ap := rp_at_get (r := pr r) (l := dj l) h1 4 p (by omega)
  have aq := rp_at_get (r := pr r) (l := dj l) h1 4 q (by omega)
  -- from and to, less one round
  have hfrom : (if (p : Int) - s.length < 0 then (atD (pr r) (dj l) s).getD (p % s.length) 0 - allD (pr r) (dj l) s else (atD (pr r) (dj l) s).getD (p % s.length) 0) = (atD (pr r) (dj l) (rp s 4)).getD p 0 - allD (pr r) (dj l) s := by
    rw [ap]
    split
    · rename_i hc
      rw [Nat.div_eq_of_lt (by omega)]; simp
    · rename_i hc
      have : p / s.length = 1 := Nat.div_eq_of_lt_le (by omega) (by omega)
      rw [this]; simp
  have hto : (if (q : Int) - s.length ≥ s.length then (atD (pr r) (dj l) s).getD (q % s.length) 0 + allD (pr r) (dj l) s else (atD (pr r) (dj l) s).getD (q % s.length) 0) = (atD (pr r) (dj l) (rp s 4)).getD q 0 - allD (pr r) (dj l) s := by
    rw [aq]
    split
    · rename_i hc
      have : q / s.length = 2 := Nat.div_eq_of_lt_le (by omega) (by omega)
      rw [this]; simp; omega
    · rename_i hc
      have : q / s.length = 1 := Nat.div_eq_of_lt_le (by omega) (by omega)
      rw [this]; simp
  have hK7 : ∀ a b : Int, -1000000000000 ≤ a ∧ a ≤ 1000000000000 → -1000000000000 ≤ b ∧ b ≤ 1000000000000 → plan_line_bears_K7 D (deskP r l) (j : Int) k2 a b = if b - a + D ≤ ((dj l).getD j default).every then k2 ((j + 1 : Nat) : Int) else some false := by
    intro a b ha hb
    rw [plan_line_bears_K7, ckb (by omega), ckb (by omega), getb default (by simp [deskP]; omega), Int.toNat_natCast, show (deskP r l).jobs = l from rfl, every_get hj, plan_line_bears_K3, ckb (by omega), show (j : Int) + 1 = ((j + 1 : Nat) : Int) by omega]
    by_cases hc : b - a + D > ((dj l).getD j default).every
    · rw [bifT (decide_eq_true hc), if_neg (by omega)]
    · rw [bifF (decide_eq_false hc), if_pos (by omega)]
  rw [plan_line_bears_K5]
  simp only [show (lineP r l s).jobs = s from rfl, show (lineP r l s).at_ = atD (pr r) (dj l) s from rfl]
  rw [ckb (by omega), remN (a := p) (by omega) (by omega), Option.bind_some, getb 0 (by omega), Int.toNat_natCast, remN (a := q - s.length) (by omega) (by omega), Option.bind_some, eq1, getb 0 (by omega), Int.toNat_natCast]
  simp only [plan_line_bears_K6, show (lineP r l s).jobs = s from rfl, show (lineP r l s).at_ = atD (pr r) (dj l) s from rfl]
  have hl : plan_line.mk (some (deskP r l)) s (atD (pr r) (dj l) s) (lineP r l s).done = lineP r l s := rfl
  simp only [hl, hall, Option.bind_some]
  have hdone : ∀ b, b = (atD (pr r) (dj l) (rp s 4)).getD q 0 - allD (pr r) (dj l) s → ∀ a, a = (atD (pr r) (dj l) (rp s 4)).getD p 0 - allD (pr r) (dj l) s → (b - a + D ≤ ((dj l).getD j default).every ↔ (atD (pr r) (dj l) (rp s 4)).getD q 0 - (atD (pr r) (dj l) (rp s 4)).getD p 0 + D ≤ ((dj l).getD j default).every) := by
    intro b hb a ha; subst hb; subst ha; constructor <;> intro h <;> omega
  by_cases c1 : (p : Int) - s.length < 0
  · rw [if_pos c1] at hfrom
    rw [bifT (decide_eq_true c1), ckb (by omega)]
    by_cases c2 : (q : Int) - s.length ≥ s.length
    · rw [if_pos c2] at hto
      rw [bifT (decide_eq_true c2), ckb (by omega), hK7 _ _ (by omega) (by omega)]
      simp only [hdone _ hto _ hfrom]
    · rw [if_neg c2] at hto
      rw [bifF (decide_eq_false c2), hK7 _ _ (by omega) (by omega)]
      simp only [hdone _ hto _ hfrom]
  · rw [if_neg c1] at hfrom
    rw [bifF (decide_eq_false c1)]
    by_cases c2 : (q : Int) - s.length ≥ s.length
    · rw [if_pos c2] at hto
      rw [bifT (decide_eq_true c2), ckb (by omega), hK7 _ _ (by omega) (by omega)]
      simp only [hdone _ hto _ hfrom]
    · rw [if_neg c2] at hto
      rw [bifF (decide_eq_false c2), hK7 _ _ (by omega) (by omega)]
      simp only [hdone _ hto _ hfrom]
theorem bears_loop {F : Nat} (hF : 100 ≤ F) {r : plan_Radar} {l : List plan_Job} (h : OkL r l) {s : List Int} (hs : okS l.length s) (h1 : 1 ≤ s.length) (h12 : s.length ≤ 12) {e : JobD} {i : Nat} (hi : i < s.length) {D : Int} (hD : -10000000000 ≤ D ∧ D ≤ 10000000000)
    (hDe : D = delayD (pr r) (dj l) e ((rp s 4).getD (s.length + i) 0) ((rp s 4).getD (s.length + i + 1) 0)) (hin : ∀ j : Nat, j < l.length → (j : Int) ∈ s) (hk : ∀ j : Nat, j < l.length → gapD (pr r) (dj l) s j ≤ ((dj l).getD j default).every) :
    ∀ n j : Nat, j ≤ l.length → l.length < n + j → plan_line_bears_L2 F (lineP r l s) (i : Int) D (deskP r l) n (j : Int) = some (((List.range l.length).drop j).all fun j : Nat => decide (gap2J (occ j (insS s l.length (s.length + i + 1)) (atD (pr r) (dj l ++ [e]) (insS s l.length (s.length + i + 1)))) ≤ ((dj l).getD j default).every)) := by
  have h6 := h.h6
  have hs' : okS (dj l).length s := by simpa using hs
  intro n
  induction n with
  | zero => intro j h1 h2; omega
  | succ n ih =>
    intro j hj0 hj
    simp only [plan_line_bears_L2, plan_line_bears_B2, plan_line_bears_K1]
    rw [show (deskP r l).takes.length = l.length by simp [deskP]]
    by_cases hc : j < l.length
    · obtain ⟨p, q, hA⟩ := around_ex h1 (hin j hc) (m := s.length + i + 1) (by omega) (by omega)
      have hp4 := hA.p4
      have hp1 := hA.p1
      have hq1 := hA.q1
      have hq4 := hA.q4
      have hiff := ins_gap (r := pr r) (l := dj l) (e := e) (m := s.length + i + 1) hs' h1 (by omega) (by omega) (j := (j : Int)) (by rw [djl]; omega) hA.p1 hA.p2 hA.p3 hA.q1 (by omega) hA.q2 hA.q3 (hk j hc)
      rw [show s.length + i + 1 - 1 = s.length + i by omega, ← hDe, djl] at hiff
      have e1 := bears_down (F := F) (r := r) (l := l) (D := D) (plan_line_bears_L2 F (lineP r l s) (i : Int) D (deskP r l) n) h1 h12 hA (by omega) (by omega) ((i : Int) + 1) (s.length + i - p) F (s.length + i) (by omega) (by omega) (by omega)
      rw [show ((s.length + i : Nat) : Int) - s.length = (i : Int) by omega] at e1
      have e2 := bears_up (F := F) (r := r) (l := l) (D := D) (plan_line_bears_L2 F (lineP r l s) (i : Int) D (deskP r l) n) h1 h12 hA (by omega) (by omega) ((p : Int) - s.length) (q - (s.length + i + 1)) F (s.length + i + 1) (by omega) (by omega) (by omega)
      rw [show ((s.length + i + 1 : Nat) : Int) - s.length = (i : Int) + 1 by omega] at e2
      rw [bifT (by simp; omega), ckb (by omega), e1, plan_line_bears_K4, e2, bears_K5 h hs h1 h12 hD hc _ hA (by omega) (by omega) (by omega), ih (j + 1) (by omega) (by omega)]
      rw [show (List.range l.length).drop j = j :: (List.range l.length).drop (j + 1) by rw [List.drop_eq_getElem_cons (by simpa using hc)]; simp, List.all_cons]
      by_cases hle : (atD (pr r) (dj l) (rp s 4)).getD q 0 - (atD (pr r) (dj l) (rp s 4)).getD p 0 + D ≤ ((dj l).getD j default).every
      · rw [if_pos hle, decide_eq_true (hiff.2 hle), Bool.true_and]
      · rw [if_neg hle, decide_eq_false (fun h => hle (hiff.1 h)), Bool.false_and]
    · rw [bifF (by simp; omega), List.drop_of_length_le (by simp; omega)]; rfl
end Go.Proofs.Ytejffembnkojjaa
