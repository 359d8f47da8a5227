/- The plain side of chapter 6, part 9: one more sweep in a round. -/
import Derived.Test.YtejffembnkojjaaC12PlanV
namespace Go.Plan
set_option linter.unusedVariables false
set_option linter.unusedSimpArgs false
theorem rp_get {s : List Int} (h1 : 1 ≤ s.length) : ∀ (c k : Nat), k < c * s.length → (rp s c).getD k 0 = s.getD (k % s.length) 0
  | 0, k, h => by simp at h
  | c + 1, k, h => by
    have hl := rp_len s c
    rw [rp]
    by_cases hk : k < c * s.length
    · rw [List.getD_eq_getElem?_getD, List.getElem?_append_left (by omega), ← List.getD_eq_getElem?_getD, rp_get h1 c k hk]
    · rw [List.getD_eq_getElem?_getD, List.getElem?_append_right (by omega), hl, ← List.getD_eq_getElem?_getD]
      have e : k = (k - c * s.length) + c * s.length := by omega
      rw [Nat.succ_mul] at h
      conv => rhs; rw [e, Nat.add_mul_mod_self_right, Nat.mod_eq_of_lt (by omega)]
theorem rp_at_get {r : RadarD} {l : List JobD} {s : List Int} (h1 : 1 ≤ s.length) : ∀ (c k : Nat), k < c * s.length → (atD r l (rp s c)).getD k 0 = (atD r l s).getD (k % s.length) 0 + ((k / s.length : Nat) : Int) * allD r l s
  | 0, k, h => by simp at h
  | c + 1, k, h => by
    have hl : (atD r l (rp s c)).length = c * s.length := by rw [atD_len, rp_len]
    have hne : s ≠ [] := by intro e; subst e; simp at h1
    have hls := atD_len r l s
    rw [rp_at r l hne c]
    by_cases hk : k < c * s.length
    · rw [List.getD_eq_getElem?_getD, List.getElem?_append_left (by omega), ← List.getD_eq_getElem?_getD, rp_at_get h1 c k hk]
    · rw [Nat.succ_mul] at h
      rw [List.getD_eq_getElem?_getD, List.getElem?_append_right (by omega), hl, ← List.getD_eq_getElem?_getD, map_getD' (d := 0) _ (by omega)]
      have e : k = (k - c * s.length) + c * s.length := by omega
      have e1 : k % s.length = k - c * s.length := by
        conv => lhs; rw [e, Nat.add_mul_mod_self_right, Nat.mod_eq_of_lt (by omega)]
      have e2 : k / s.length = c := by
        conv => lhs; rw [e, Nat.add_mul_div_right _ _ (by omega), Nat.div_eq_of_lt (by omega)]
        omega
      rw [e1, e2]
/-! ### The sequence with one more job -/
def insS (s : List Int) (N : Nat) (m : Nat) : List Int := (rp s 4).take m ++ [(N : Int)] ++ (rp s 4).drop m
theorem occ_none {j : Int} : ∀ (s a : List Int), j ∉ s → occ j s a = []
  | [], _, _ => by simp [occ]
  | _ :: _, [], _ => by simp [occ]
  | y :: s, b :: a, h => by
    simp only [occ]
    rw [if_neg (fun e => h (by simp [e])), occ_none s a (fun h2 => h (by simp [h2]))]
theorem take_split {α : Type} [Inhabited α] {l : List α} {p m : Nat} {d : α} (hp : p < m) (hm : m ≤ l.length) : l.take m = l.take p ++ l.getD p d :: (l.take m).drop (p + 1) := by
  have h1 : l.take m = (l.take m).take p ++ (l.take m).drop p := (List.take_append_drop p _).symm
  have h2 : (l.take m).drop p = l.getD p d :: (l.take m).drop (p + 1) := by
    rw [List.drop_eq_getElem_cons (by simp; omega)]
    congr 1
    rw [List.getElem_take, List.getD_eq_getElem?_getD, List.getElem?_eq_getElem (by omega)]; rfl
  conv => lhs; rw [h1, List.take_take, Nat.min_eq_left (by omega), h2]
theorem mem_drop_take {s : List Int} {j : Int} {a m : Nat} (hm : m ≤ s.length) (h : j ∈ (s.take m).drop a) : ∃ k, a ≤ k ∧ k < m ∧ s.getD k 0 = j := by
  obtain ⟨i, hi, he⟩ := List.mem_iff_getElem.1 h
  simp only [List.length_drop, List.length_take] at hi
  refine ⟨a + i, by omega, by omega, ?_⟩
  rw [List.getD_eq_getElem?_getD, List.getElem?_eq_getElem (by omega)]
  rw [List.getElem_drop, List.getElem_take] at he
  exact he
theorem occ_last {j : Int} {s a : List Int} {p m : Nat} (hl : a.length = s.length) (hp : p < m) (hm : m ≤ s.length) (hj : s.getD p 0 = j) (hn : ∀ k, p < k → k < m → s.getD k 0 ≠ j) :
    occ j (s.take m) (a.take m) = occ j (s.take p) (a.take p) ++ [a.getD p 0] := by
  rw [take_split (d := 0) hp hm, take_split (l := a) (d := 0) hp (by omega), occ_append j _ _ _ _ (by simp; omega)]
  congr 1
  show (if s.getD p 0 = j then _ else _) = _
  rw [if_pos hj, occ_none _ _ (fun h => ?_)]
  obtain ⟨k, h1, h2, h3⟩ := mem_drop_take hm h
  exact hn k (by omega) h2 h3
theorem occ_first {j : Int} {s a : List Int} {q m : Nat} (hl : a.length = s.length) (hq : m ≤ q) (hm : q < s.length) (hj : s.getD q 0 = j) (hn : ∀ k, m ≤ k → k < q → s.getD k 0 ≠ j) :
    occ j (s.drop m) (a.drop m) = a.getD q 0 :: occ j (s.drop (q + 1)) (a.drop (q + 1)) := by
  have e : ∀ l : List Int, q < l.length → l.drop m = (l.take q).drop m ++ l.getD q 0 :: l.drop (q + 1) := by
    intro l hl
    have h1 : l = l.take q ++ l.drop q := (List.take_append_drop q l).symm
    have h2 : l.drop q = l.getD q 0 :: l.drop (q + 1) := by
      rw [List.drop_eq_getElem_cons hl, List.getD_eq_getElem?_getD, List.getElem?_eq_getElem hl]; rfl
    conv => lhs; rw [h1, h2]
    rw [List.drop_append_of_le_length (by simp; omega)]
  rw [e s hm, e a (by omega), occ_append j _ _ _ _ (by simp; omega), occ_none _ _ (fun h => ?_)]
  · show (if s.getD q 0 = j then _ else _) = _
    rw [if_pos hj]
  · obtain ⟨k, h1, h2, h3⟩ := mem_drop_take (by omega) h
    exact hn k h1 h2 h3
theorem gap2J_app (a b : Int) (A B : List Int) : gap2J ((a :: A) ++ (b :: B)) = mx (mx (dmax 0 a A) (b - lastO a A)) (dmax 0 b B) := by
  show dmax 0 a (A ++ b :: B) = _
  rw [dmax_append]
  show dmax (mx (dmax 0 a A) (b - lastO a A)) b B = _
  have d := dmax_ge 0 a A
  have m := mx_spec (dmax 0 a A) (b - lastO a A)
  rw [dmax_pos (by omega)]
section
variable {r : RadarD} {l : List JobD} {e : JobD} {s : List Int}
theorem tk_app {j : Int} (hj : 0 ≤ j) (hj2 : j < l.length) : tk r (l ++ [e]) j = tk r l j := by
  unfold tk
  rw [show (l ++ [e]).getD j.toNat default = l.getD j.toNat default by simp [List.getD_eq_getElem?_getD, List.getElem?_append_left (show j.toNat < l.length by omega)]]
theorem job_app {j : Int} (hj : 0 ≤ j ∧ j < l.length) : (l ++ [e]).getD j.toNat default = l.getD j.toNat default := by simp [List.getD_eq_getElem?_getD, List.getElem?_append_left (show j.toNat < l.length by omega)]
theorem job_new : (l ++ [e]).getD ((l.length : Nat) : Int).toNat default = e := by simp [List.getD_eq_getElem?_getD]
theorem mv_app {i j : Int} (hi : 0 ≤ i ∧ i < l.length) (hj : 0 ≤ j ∧ j < l.length) : mv r (l ++ [e]) i j = mv r l i j := by unfold mv; rw [job_app hi, job_app hj]
theorem line_app : ∀ t, okS l.length t → atD r (l ++ [e]) t = atD r l t ∧ doneD r (l ++ [e]) t = doneD r l t ∧ ∀ j : Int, 0 ≤ j ∧ j < l.length → startD r (l ++ [e]) t j = startD r l t j := by
  refine snoc_ind (fun _ => ⟨rfl, rfl, fun j _ => by simp [startD]⟩) ?_
  intro t x ih ht
  obtain ⟨h1, hx⟩ := okS_init ht
  obtain ⟨i1, i2, i3⟩ := ih h1
  refine ⟨by rw [atD_snoc, atD_snoc, i1, i3 x hx], by rw [doneD_snoc, doneD_snoc, i3 x hx, tk_app hx.1 hx.2], fun j hj => ?_⟩
  rw [startD_snoc, startD_snoc, i3 x hx, tk_app hx.1 hx.2, mv_app hx hj]
/-- By how much a sweep delays what follows. -/
def delayD (r : RadarD) (l : List JobD) (e : JobD) (a b : Int) : Int := moveJ r (l.getD a.toNat default) e + timeJ r e + moveJ r e (l.getD b.toNat default) - mv r l a b
def beginD' (r : RadarD) (l : List JobD) (e : JobD) (s : List Int) (i : Nat) : Int := (atD r l s).getD i 0 + tk r l (s.getD i 0) + moveJ r (l.getD (s.getD i 0).toNat default) e
/-- The beginnings with one more job. -/
theorem ins_at (hs : okS l.length s) (h1 : 1 ≤ s.length) {m : Nat} (hm1 : 1 ≤ m) (hm : m < 4 * s.length) :
    atD r (l ++ [e]) (insS s l.length m) = (atD r l (rp s 4)).take m ++ [doneD r l ((rp s 4).take m) + moveJ r (l.getD ((rp s 4).getD (m - 1) 0).toNat default) e] ++ ((atD r l (rp s 4)).drop m).map (· + delayD r l e ((rp s 4).getD (m - 1) 0) ((rp s 4).getD m 0)) := by
  have hR := rp_len s 4
  have hRok := rp_ok hs 4
  have hPok : okS l.length ((rp s 4).take m) := okS_take hRok
  have hQok : okS l.length ((rp s 4).drop m) := okS_mem.2 fun x hx => okS_mem.1 hRok x (List.mem_of_mem_drop hx)
  have hQne : (rp s 4).drop m ≠ [] := by intro h; have := congrArg List.length h; simp at this; omega
  have hPne : (rp s 4).take m ≠ [] := by intro h; have := congrArg List.length h; rw [List.length_take, List.length_nil] at this; omega
  have hQ0 : ((rp s 4).drop m).getD 0 0 = (rp s 4).getD m 0 := by simp [List.getD_eq_getElem?_getD, List.getElem?_drop]
  have hPl : ((rp s 4).take m).length = m := by simp; omega
  have hlast : ((rp s 4).take m).getD (((rp s 4).take m).length - 1) 0 = (rp s 4).getD (m - 1) 0 := by
    rw [hPl]; simp [List.getD_eq_getElem?_getD, List.getElem?_take, show m - 1 < m by omega]
  have hx1 := hRok (m - 1) (by omega)
  have hx2 := hRok m (by omega)
  have a1 := line_app (r := r) (e := e) _ hPok
  have a2 := line_app (r := r) (e := e) _ hQok
  unfold insS
  rw [(app_at r (l ++ [e]) ((rp s 4).take m ++ [(l.length : Int)]) _ hQne).1, atD_snoc, a1.1, a2.1, hQ0, startD_snoc]
  have eN : startD r (l ++ [e]) ((rp s 4).take m) (l.length : Int) = doneD r l ((rp s 4).take m) + moveJ r (l.getD ((rp s 4).getD (m - 1) 0).toNat default) e := by
    unfold startD
    rw [if_neg (by omega), hlast, a1.2.1]
    unfold mv
    rw [job_app hx1, job_new]
  have eT : tk r (l ++ [e]) (l.length : Int) = timeJ r e := by unfold tk; rw [job_new]
  have eV : mv r (l ++ [e]) (l.length : Int) ((rp s 4).getD m 0) = moveJ r e (l.getD ((rp s 4).getD m 0).toNat default) := by unfold mv; rw [job_app hx2, job_new]
  rw [eN, eT, eV, atD_take]
  have hR2 : atD r l (rp s 4) = atD r l ((rp s 4).take m) ++ (atD r l ((rp s 4).drop m)).map (· + startD r l ((rp s 4).take m) ((rp s 4).getD m 0)) := by
    conv => lhs; rw [← List.take_append_drop m (rp s 4)]
    rw [(app_at r l _ _ hQne).1, hQ0]
  have hd : (atD r l (rp s 4)).drop m = (atD r l ((rp s 4).drop m)).map (· + startD r l ((rp s 4).take m) ((rp s 4).getD m 0)) := by
    conv => lhs; rw [hR2]
    rw [List.drop_append_of_le_length (by rw [atD_len]; omega), List.drop_of_length_le (by rw [atD_len]; omega), List.nil_append]
  rw [hd, List.map_map]
  congr 1
  apply List.map_congr_left
  intro x _
  have eS : startD r l ((rp s 4).take m) ((rp s 4).getD m 0) = doneD r l ((rp s 4).take m) + mv r l ((rp s 4).getD (m - 1) 0) ((rp s 4).getD m 0) := by
    unfold startD; rw [if_neg (by omega), hlast]
  show x + _ = x + _ + delayD r l e ((rp s 4).getD (m - 1) 0) ((rp s 4).getD m 0)
  rw [eS]
  unfold delayD
  omega
/-- Whether no job waits for too long. -/
theorem ins_gap (hs : okS l.length s) (h1 : 1 ≤ s.length) {m p q : Nat} (hm1 : 1 ≤ m) (hm : m < 4 * s.length) {j : Int} (hj : 0 ≤ j ∧ j < l.length)
    (hp : p < m) (hpj : (rp s 4).getD p 0 = j) (hpn : ∀ k, p < k → k < m → (rp s 4).getD k 0 ≠ j) (hq : m ≤ q) (hq4 : q < 4 * s.length) (hqj : (rp s 4).getD q 0 = j) (hqn : ∀ k, m ≤ k → k < q → (rp s 4).getD k 0 ≠ j)
    {E : Int} (hE : gapD r l s j ≤ E) :
    gap2J (occ j (insS s l.length m) (atD r (l ++ [e]) (insS s l.length m))) ≤ E ↔ (atD r l (rp s 4)).getD q 0 - (atD r l (rp s 4)).getD p 0 + delayD r l e ((rp s 4).getD (m - 1) 0) ((rp s 4).getD m 0) ≤ E := by
  have hR := rp_len s 4
  have hAl : (atD r l (rp s 4)).length = 4 * s.length := by rw [atD_len, hR]
  have hne : s ≠ [] := by intro h; subst h; simp at h1
  rw [ins_at hs h1 hm1 hm]
  generalize delayD r l e ((rp s 4).getD (m - 1) 0) ((rp s 4).getD m 0) = D
  have hocc : occ j (insS s l.length m) ((atD r l (rp s 4)).take m ++ [doneD r l ((rp s 4).take m) + moveJ r (l.getD ((rp s 4).getD (m - 1) 0).toNat default) e] ++ ((atD r l (rp s 4)).drop m).map (· + D)) = occ j ((rp s 4).take m) ((atD r l (rp s 4)).take m) ++ (occ j ((rp s 4).drop m) ((atD r l (rp s 4)).drop m)).map (· + D) := by
    unfold insS
    rw [occ_append j _ _ _ _ (by simp [hR, hAl]), occ_append j _ _ _ _ (by simp [hR, hAl]), occ_map]
    congr 1
    show occ j ((rp s 4).take m) ((atD r l (rp s 4)).take m) ++ (if ((l.length : Nat) : Int) = j then _ else _) = _
    rw [if_neg (by omega)]; simp [occ]
  rw [hocc, occ_last (by rw [hAl, hR]) hp (by omega) hpj hpn, occ_first (by rw [hAl, hR]) hq (by omega) hqj hqn]
  have hW : gap2J (occ j (rp s 4) (atD r l (rp s 4))) = gapD r l s j := wait_rp hne 2 j
  have hsplit : occ j (rp s 4) (atD r l (rp s 4)) = occ j ((rp s 4).take m) ((atD r l (rp s 4)).take m) ++ occ j ((rp s 4).drop m) ((atD r l (rp s 4)).drop m) := by
    rw [← occ_append j _ _ _ _ (by simp [hR, hAl]), List.take_append_drop, List.take_append_drop]
  rw [hsplit, occ_last (by rw [hAl, hR]) hp (by omega) hpj hpn, occ_first (by rw [hAl, hR]) hq (by omega) hqj hqn] at hW
  generalize occ j ((rp s 4).take p) ((atD r l (rp s 4)).take p) = X at hW ⊢
  generalize occ j ((rp s 4).drop (q + 1)) ((atD r l (rp s 4)).drop (q + 1)) = Y at hW ⊢
  generalize (atD r l (rp s 4)).getD p 0 = a at hW ⊢
  generalize (atD r l (rp s 4)).getD q 0 = b at hW ⊢
  obtain ⟨x, X', hX⟩ : ∃ x X', X ++ [a] = x :: X' := by cases X with
    | nil => exact ⟨a, [], rfl⟩
    | cons x X => exact ⟨x, X ++ [a], rfl⟩
  have hlast : lastO x X' = a := by
    have h2 := lastO_snoc a 0 X
    rw [hX] at h2
    exact h2
  rw [hX, gap2J_app, hlast] at hW
  rw [hX, List.map_cons, gap2J_app, hlast, dmax_map]
  have m1 := mx_spec (dmax 0 x X') (b - a)
  have m2 := mx_spec (mx (dmax 0 x X') (b - a)) (dmax 0 b Y)
  have m3 := mx_spec (dmax 0 x X') (b + D - a)
  have m4 := mx_spec (mx (dmax 0 x X') (b + D - a)) (dmax 0 b Y)
  omega
end
end Go.Plan
