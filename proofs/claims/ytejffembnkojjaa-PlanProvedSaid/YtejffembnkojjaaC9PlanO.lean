/- The plain side of chapter 6, part 3: gaps by occurrences. -/
import Derived.Test.YtejffembnkojjaaC9PlanN
namespace Go.Plan
set_option linter.unusedVariables false
set_option linter.unusedSimpArgs false
/-- The places where a job begins. -/
def occ (j : Int) : List Int → List Int → List Int
  | x :: s, a :: l => if x = j then a :: occ j s l else occ j s l
  | _, _ => []
def dmax : Int → Int → List Int → Int
  | m, _, [] => m
  | m, a, x :: l => dmax (mx m (x - a)) x l
def lastO : Int → List Int → Int
  | a, [] => a
  | _, x :: l => lastO x l
def lastJ (al : Int) : List Int → Int
  | [] => 0
  | x :: l => lastO x l - al
def gapJ (al : Int) : List Int → Int
  | [] => 0
  | x :: l => dmax 0 (lastO x l - al) (x :: l)
theorem occ_snoc (j x a : Int) : ∀ (s l : List Int), s.length = l.length → occ j (s ++ [x]) (l ++ [a]) = occ j s l ++ if x = j then [a] else []
  | [], [], _ => by simp only [List.nil_append, occ]
  | [], _ :: _, h => by simp at h
  | _ :: _, [], h => by simp at h
  | y :: s, b :: l, h => by
    have := occ_snoc j x a s l (by simpa using h)
    simp only [List.cons_append, occ, this]
    split <;> simp
theorem occ_append (j : Int) : ∀ (s l s' l' : List Int), s.length = l.length → occ j (s ++ s') (l ++ l') = occ j s l ++ occ j s' l'
  | [], [], _, _, _ => by simp [occ]
  | [], _ :: _, _, _, h => by simp at h
  | _ :: _, [], _, _, h => by simp at h
  | y :: s, b :: l, s', l', h => by
    have := occ_append j s l s' l' (by simpa using h)
    simp only [List.cons_append, occ, this]
    split <;> simp
theorem occ_map (j c : Int) : ∀ (s l : List Int), occ j s (l.map (· + c)) = (occ j s l).map (· + c)
  | [], _ => by simp [occ]
  | _ :: _, [] => by simp [occ]
  | y :: s, b :: l => by
    have := occ_map j c s l
    simp only [List.map_cons, occ, this]
    split <;> simp
theorem dmax_snoc (y : Int) : ∀ (m a : Int) (l : List Int), dmax m a (l ++ [y]) = mx (dmax m a l) (y - lastO a l)
  | _, _, [] => rfl
  | m, a, x :: l => by
    show dmax (mx m (x - a)) x (l ++ [y]) = _
    rw [dmax_snoc y _ x l]; rfl
theorem dmax_append : ∀ (m a : Int) (l l' : List Int), dmax m a (l ++ l') = dmax (dmax m a l) (lastO a l) l'
  | _, _, [], _ => rfl
  | m, a, x :: l, l' => by
    show dmax (mx m (x - a)) x (l ++ l') = _
    rw [dmax_append _ x l l']; rfl
theorem lastO_snoc (y : Int) : ∀ (a : Int) (l : List Int), lastO a (l ++ [y]) = y
  | _, [] => rfl
  | _, x :: l => lastO_snoc y x l
theorem lastO_append : ∀ (a : Int) (l l' : List Int), lastO a (l ++ l') = lastO (lastO a l) l'
  | _, [], _ => rfl
  | _, x :: l, l' => lastO_append x l l'
theorem lastO_map (c : Int) : ∀ (a : Int) (l : List Int), lastO (a + c) (l.map (· + c)) = lastO a l + c
  | _, [] => rfl
  | _, x :: l => lastO_map c x l
theorem dmax_map (c : Int) : ∀ (m a : Int) (l : List Int), dmax m (a + c) (l.map (· + c)) = dmax m a l
  | _, _, [] => rfl
  | m, a, x :: l => by
    show dmax (mx m (x + c - (a + c))) (x + c) (l.map (· + c)) = _
    rw [dmax_map c _ x l, show x + c - (a + c) = x - a by omega]; rfl
theorem mx_assoc (a b c : Int) : mx (mx a b) c = mx a (mx b c) := by unfold mx; repeat' split <;> omega
theorem mx_comm (a b : Int) : mx a b = mx b a := by unfold mx; repeat' split <;> omega
theorem mx_self (a : Int) : mx a a = a := by unfold mx; split <;> rfl
theorem dmax_mx : ∀ (m k a : Int) (l : List Int), dmax (mx m k) a l = mx m (dmax k a l)
  | _, _, _, [] => rfl
  | m, k, a, x :: l => by
    show dmax (mx (mx m k) (x - a)) x l = mx m (dmax (mx k (x - a)) x l)
    rw [mx_assoc, dmax_mx m _ x l]
theorem dmax_ge : ∀ (m a : Int) (l : List Int), m ≤ dmax m a l
  | m, _, [] => Int.le_refl m
  | m, a, x :: l => Int.le_trans (mx_spec m (x - a)).2.1 (dmax_ge _ x l)
/-- What the document's loop over two rounds finds. -/
def gap2J : List Int → Int
  | [] => 0
  | x :: l => dmax 0 x l
theorem gap2J_eq (al : Int) (o : List Int) : gap2J (o ++ o.map (· + al)) = gapJ al o := by
  cases o with
  | nil => rfl
  | cons x l =>
    show dmax 0 x (l ++ (x :: l).map (· + al)) = dmax (mx 0 (x - (lastO x l - al))) x l
    rw [dmax_append, List.map_cons]
    show dmax (mx (dmax 0 x l) (x + al - lastO x l)) (x + al) (l.map (· + al)) = _
    rw [dmax_map, mx_comm, show x - (lastO x l - al) = x + al - lastO x l by omega]
    have e : dmax (mx 0 (x + al - lastO x l)) x l = mx (x + al - lastO x l) (dmax 0 x l) := by rw [mx_comm, dmax_mx]
    rw [e, dmax_mx]
    have e2 : dmax (dmax 0 x l) x l = mx (dmax 0 x l) (dmax 0 x l) := by
      have := dmax_mx (dmax 0 x l) 0 x l
      rw [← this]
      have h0 := dmax_ge 0 x l
      have : mx (dmax 0 x l) 0 = dmax 0 x l := by unfold mx; split <;> omega
      rw [this]
    rw [e2, mx_self]
/-! ### The arrays of the program -/
theorem last1_occ (r : RadarD) (l : List JobD) (s : List Int) (n : Nat) (hs : okS n s) : ∀ k, k ≤ s.length → ∀ j : Nat, j < n → (last1 r l s n k).getD j 0 = lastJ (allD r l s) (occ j (s.take k) ((atD r l s).take k)) := by
  intro k
  induction k with
  | zero => intro _ j hj; simp [last1, occ, lastJ, hj]
  | succ k ih =>
    intro hk j hj
    have hl := atD_len r l s
    rw [← take_snoc (d := 0) (show k < s.length by omega), ← take_snoc (d := 0) (show k < (atD r l s).length by omega), occ_snoc _ _ _ _ _ (by simp; omega), last1, set_getD, last1_len]
    have hb := hs k (by omega)
    by_cases hc : s.getD k 0 = (j : Int)
    · have hc1 : (s.getD k 0).toNat = j ∧ (s.getD k 0).toNat < n := by omega
      rw [if_pos hc1, if_pos hc]
      generalize occ (j : Int) (s.take k) ((atD r l s).take k) = o
      cases o with
      | nil => rfl
      | cons x o => show _ = lastO x (o ++ [_]) - _; rw [lastO_snoc]
    · have hc1 : ¬ ((s.getD k 0).toNat = j ∧ (s.getD k 0).toNat < n) := by omega
      rw [if_neg hc1, if_neg hc, List.append_nil]
      exact ih (by omega) j hj
theorem gap2_occ (r : RadarD) (l : List JobD) (s : List Int) (n : Nat) (hs : okS n s) : ∀ k, k ≤ s.length → ∀ j : Nat, j < n →
    (gap2 r l s n k).1.getD j 0 = dmax 0 (lastJ (allD r l s) (occ j s (atD r l s))) (occ j (s.take k) ((atD r l s).take k)) ∧
    (gap2 r l s n k).2.getD j 0 = lastO (lastJ (allD r l s) (occ j s (atD r l s))) (occ j (s.take k) ((atD r l s).take k)) := by
  intro k
  have hl := atD_len r l s
  induction k with
  | zero =>
    intro _ j hj
    have h := last1_occ r l s n hs s.length (Nat.le_refl _) j hj
    rw [List.take_length, ← hl, List.take_length, hl] at h
    refine ⟨by simp [gap2, occ, dmax, hj], ?_⟩
    show (last1 r l s n s.length).getD j 0 = _
    rw [h]; simp [occ, lastO]
  | succ k ih =>
    intro hk j hj
    have hg := gap2_len r l s n k
    rw [← take_snoc (d := 0) (show k < s.length by omega), ← take_snoc (d := 0) (show k < (atD r l s).length by omega), occ_snoc _ _ _ _ _ (by simp; omega)]
    simp only [gap2, set_getD, hg]
    have hb := hs k (by omega)
    have h1 := ih (by omega) j hj
    by_cases hc : s.getD k 0 = (j : Int)
    · have hc1 : (s.getD k 0).toNat = j ∧ (s.getD k 0).toNat < n := by omega
      rw [if_pos hc1, if_pos hc1, if_pos hc, hc, Int.toNat_natCast, h1.1, h1.2, dmax_snoc, lastO_snoc]
      exact ⟨rfl, rfl⟩
    · have hc1 : ¬ ((s.getD k 0).toNat = j ∧ (s.getD k 0).toNat < n) := by omega
      rw [if_neg hc1, if_neg hc1, if_neg hc, List.append_nil]
      exact h1
/-- The gap of a job. -/
def gapD (r : RadarD) (l : List JobD) (s : List Int) (j : Int) : Int := gapJ (allD r l s) (occ j s (atD r l s))
theorem gapsD_get (r : RadarD) (l : List JobD) (s : List Int) (n : Nat) (hs : okS n s) (j : Nat) (hj : j < n) : (gapsD r l s n).getD j 0 = gapD r l s j := by
  have h := (gap2_occ r l s n hs s.length (Nat.le_refl _) j hj).1
  rw [List.take_length, ← atD_len r l s, List.take_length, atD_len r l s] at h
  rw [gapsD, h, gapD]
  cases occ (j : Int) s (atD r l s) <;> rfl
end Go.Plan
