/- Chapter 6, plain laws, part 18: cuts and proofs, on the plain program. -/
import Derived.Test.YtejffembnkojjaaC10XL6
import Derived.Test.YtejffembnkojjaaC10PlanX
namespace Go.Proofs.Ytejffembnkojjaa
open Go Go.Eng Go.Plan
set_option linter.unusedVariables false
set_option linter.unusedSimpArgs false
set_option maxRecDepth 10000
abbrev FLp (r : plan_Radar) (l : List plan_Job) : List Int → Option Nat := firstLate (pr r) (dj l)
abbrev lc (r : plan_Radar) (l : List plan_Job) (c : CutD) : plan_line × Int := (lineP r l c.1, c.2)
theorem cuts_eq {σ : Type} {r : plan_Radar} {l : List plan_Job} (h : OkL r l) (body : σ → plan_line × Int → Option (σ × Bool)) {n : Nat} (hn : n ≤ 50) :
    ∀ k F : Nat, 100 + k ≤ F → ∀ p, okS l.length p → p.length + (k + 1) = n → ∀ s, pplan_desk_cuts_1_1 F (lineP r l p) (some (deskP r l)) (n : Int) body s = (foldB body s ((cutL l.length (FLp r l) (k + 1) p).map (lc r l))).map dup := by
  have h6 := h.h6
  intro k
  induction k with
  | zero =>
    intro F hF p hp hl s
    obtain ⟨F, rfl⟩ : ∃ G, F = G + 1 := ⟨F - 1, by omega⟩
    simp only [pplan_desk_cuts_1_1, pplan_desk_cuts_1_1_R, Option.bind_some]
    have : ∀ m i : Nat, i ≤ l.length → l.length < m + i → ∀ s, pplan_desk_cuts_1_1_L2 F body (pplan_desk_cuts_1_1 F) (lineP r l p) (n : Int) (deskP r l) m (i : Int) s =
        (foldB body s ((((List.range l.length).drop i).flatMap fun j : Nat => cut1 (FLp r l) 0 (cutL l.length (FLp r l) 0 (p ++ [(j : Int)])) (p ++ [(j : Int)])).map (lc r l))).map dup := by
      intro m
      induction m with
      | zero => intro i h1 h2; omega
      | succ m ih =>
        intro i hi0 hi s
        simp only [pplan_desk_cuts_1_1_L2, pplan_desk_cuts_1_1_B2, pplan_desk_cuts_1_1_K1, pplan_desk_cuts_1_1_K3]
        rw [show (deskP r l).takes.length = l.length by simp [deskP]]
        by_cases hc : i < l.length
        · have hpi : okS l.length (p ++ [(i : Int)]) := okS_snoc hp (by omega)
          rw [bifT (by simp; omega), add_eq h hp (by omega) (by omega), Option.bind_some, first_eq h hpi (by simp) (by simp; omega) (by omega), Option.bind_some, range_drop hc, List.flatMap_cons, List.map_append, foldB_append]
          have hi1 := ih (i + 1) (by omega) (by omega)
          rw [show ((i + 1 : Nat) : Int) = (i : Int) + 1 by omega] at hi1
          cases hf : firstLate (pr r) (dj l) (p ++ [(i : Int)]) with
          | some j =>
            have hcut : cut1 (FLp r l) 0 (cutL l.length (FLp r l) 0 (p ++ [(i : Int)])) (p ++ [(i : Int)]) = [(p ++ [(i : Int)], (j : Int))] := by unfold cut1; rw [show FLp r l (p ++ [(i : Int)]) = some j from hf]
            rw [hcut]
            simp only [List.map_cons, List.map_nil, foldB]
            rw [cond_true]
            cases hb : body s (lineP r l (p ++ [(i : Int)]), (j : Int)) with
            | none => rfl
            | some q =>
              rw [Option.bind_some, Option.bind_some]
              cases hq : q.2 with
              | true =>
                rw [cond_true, cond_true, Option.bind_some, cond_true, ckb (by omega)]
                exact hi1 q.1
              | false => rw [cond_false, cond_false, Option.bind_some, cond_false]; rfl
          | none =>
            have hcut : cut1 (FLp r l) 0 (cutL l.length (FLp r l) 0 (p ++ [(i : Int)])) (p ++ [(i : Int)]) = [(p ++ [(i : Int)], -1)] := by unfold cut1; rw [show FLp r l (p ++ [(i : Int)]) = none from hf]; rfl
            rw [hcut]
            simp only [List.map_cons, List.map_nil, foldB]
            rw [cond_false, bifT (by simp [lineP]; omega)]
            cases hb : body s (lineP r l (p ++ [(i : Int)]), -1) with
            | none => rfl
            | some q =>
              rw [Option.bind_some, Option.bind_some]
              cases hq : q.2 with
              | true =>
                rw [cond_true, cond_true, Option.bind_some, cond_true, ckb (by omega)]
                exact hi1 q.1
              | false => rw [cond_false, cond_false, Option.bind_some, cond_false]; rfl
        · rw [bifF (by simp; omega), List.drop_of_length_le (by simp; omega)]; rfl
    have h2 := this F 0 (by omega) (by omega) s
    rw [List.drop_zero] at h2
    rw [cutL]
    exact h2
  | succ k ihk =>
    intro F hF p hp hl s
    obtain ⟨F, rfl⟩ : ∃ G, F = G + 1 := ⟨F - 1, by omega⟩
    simp only [pplan_desk_cuts_1_1, pplan_desk_cuts_1_1_R, Option.bind_some]
    have : ∀ m i : Nat, i ≤ l.length → l.length < m + i → ∀ s, pplan_desk_cuts_1_1_L2 F body (pplan_desk_cuts_1_1 F) (lineP r l p) (n : Int) (deskP r l) m (i : Int) s =
        (foldB body s ((((List.range l.length).drop i).flatMap fun j : Nat => cut1 (FLp r l) (k + 1) (cutL l.length (FLp r l) (k + 1) (p ++ [(j : Int)])) (p ++ [(j : Int)])).map (lc r l))).map dup := by
      intro m
      induction m with
      | zero => intro i h1 h2; omega
      | succ m ih =>
        intro i hi0 hi s
        simp only [pplan_desk_cuts_1_1_L2, pplan_desk_cuts_1_1_B2, pplan_desk_cuts_1_1_K1, pplan_desk_cuts_1_1_K3]
        rw [show (deskP r l).takes.length = l.length by simp [deskP]]
        by_cases hc : i < l.length
        · have hpi : okS l.length (p ++ [(i : Int)]) := okS_snoc hp (by omega)
          rw [bifT (by simp; omega), add_eq h hp (by omega) (by omega), Option.bind_some, first_eq h hpi (by simp) (by simp; omega) (by omega), Option.bind_some, range_drop hc, List.flatMap_cons, List.map_append, foldB_append]
          have hi1 := ih (i + 1) (by omega) (by omega)
          rw [show ((i + 1 : Nat) : Int) = (i : Int) + 1 by omega] at hi1
          cases hf : firstLate (pr r) (dj l) (p ++ [(i : Int)]) with
          | some j =>
            have hcut : cut1 (FLp r l) (k + 1) (cutL l.length (FLp r l) (k + 1) (p ++ [(i : Int)])) (p ++ [(i : Int)]) = [(p ++ [(i : Int)], (j : Int))] := by unfold cut1; rw [show FLp r l (p ++ [(i : Int)]) = some j from hf]
            rw [hcut]
            simp only [List.map_cons, List.map_nil, foldB]
            rw [cond_true]
            cases hb : body s (lineP r l (p ++ [(i : Int)]), (j : Int)) with
            | none => rfl
            | some q =>
              rw [Option.bind_some, Option.bind_some]
              cases hq : q.2 with
              | true =>
                rw [cond_true, cond_true, Option.bind_some, cond_true, ckb (by omega)]
                exact hi1 q.1
              | false => rw [cond_false, cond_false, Option.bind_some, cond_false]; rfl
          | none =>
            have hcut : cut1 (FLp r l) (k + 1) (cutL l.length (FLp r l) (k + 1) (p ++ [(i : Int)])) (p ++ [(i : Int)]) = cutL l.length (FLp r l) (k + 1) (p ++ [(i : Int)]) := by unfold cut1; rw [show FLp r l (p ++ [(i : Int)]) = none from hf]; rfl
            rw [hcut, cond_false, bifF (by simp [lineP]; omega), ihk F (by omega) _ hpi (by simp; omega) s]
            cases foldB body s ((cutL l.length (FLp r l) (k + 1) (p ++ [(i : Int)])).map (lc r l)) with
            | none => rfl
            | some q =>
              rw [Option.map_some, Option.bind_some, Option.bind_some]
              obtain ⟨a, b⟩ := q
              cases b with
              | true =>
                have e1 : (dup (a, true)).2.1 = true := rfl
                have e2 : (dup (a, true)).2.2 = true := rfl
                have e3 : (dup (a, true)).1 = a := rfl
                rw [e1, e2, e3, cond_true, Bool.not_true, cond_false, cond_true, ckb (by omega)]
                exact hi1 a
              | false =>
                have e1 : (dup (a, false)).2.1 = false := rfl
                have e2 : (dup (a, false)).2.2 = false := rfl
                have e3 : (dup (a, false)).1 = a := rfl
                rw [e1, e2, e3, cond_false, Bool.not_false, cond_true, cond_false]; rfl
        · rw [bifF (by simp; omega), List.drop_of_length_le (by simp; omega)]; rfl
    have h2 := this F 0 (by omega) (by omega) s
    rw [List.drop_zero] at h2
    rw [cutL]
    exact h2
theorem cuts1_eq {σ : Type} {r : plan_Radar} {l : List plan_Job} (h : OkL r l) (body : σ → plan_line × Int → Option (σ × Bool)) {k F : Nat} (hk : k < 50) (hF : 200 ≤ F) (s : σ) :
    pplan_desk_cuts_1 F (some (deskP r l)) ((k + 1 : Nat) : Int) body s = foldB body s ((cutL l.length (FLp r l) (k + 1) []).map (lc r l)) := by
  rw [pplan_desk_cuts_1]
  have := cuts_eq h body (n := k + 1) (by omega) k F (by omega) [] (okS_nil _) (by simp) s
  rw [show plan_line.mk (some (deskP r l)) [] [] 0 = lineP r l [] from rfl, this]
  cases foldB body s ((cutL l.length (FLp r l) (k + 1) []).map (lc r l)) with
  | none => rfl
  | some q =>
    obtain ⟨a, b⟩ := q
    cases b <;> rfl
/-! ### Refute -/
def pcut (c : CutD) : plan_Cut := ⟨c.1, c.2⟩
def anyM (cs : List CutD) : Bool := cs.any fun c => decide (c.2 < 0)
theorem refute_fold {r : plan_Radar} {l : List plan_Job} : ∀ (cs : List CutD) (out : List plan_Cut) (n : Nat) (x : Nat), n + cs.length ≤ 3000000 → out.length ≤ n →
    if anyM cs then ∃ o m, foldB plan_Refute_Y1 ((0 : Int), out, (n : Int), x) (cs.map (lc r l)) = some ((4, o, m, 1), false)
    else ∃ o y, foldB plan_Refute_Y1 ((0 : Int), out, (n : Int), x) (cs.map (lc r l)) = some ((0, o, ((n + cs.length : Nat) : Int), y), true) ∧ (n + cs.length ≤ 5000 → o = out ++ cs.map pcut)
  | [], out, n, x, _, _ => by
    rw [if_neg (by simp [anyM])]
    exact ⟨out, x, by simp [foldB], by simp⟩
  | c :: cs, out, n, x, hn, ho => by
    simp only [List.map_cons, foldB, plan_Refute_Y1]
    by_cases hc : c.2 < 0
    · rw [if_pos (by simp [anyM, hc]), bifT (decide_eq_true hc), Option.bind_some, cond_false]
      exact ⟨_, _, rfl⟩
    · have ha : anyM (c :: cs) = anyM cs := by simp [anyM, hc]
      rw [ha, bifF (decide_eq_false hc), ckb (by simp at hn; omega), show (n : Int) + 1 = ((n + 1 : Nat) : Int) by omega]
      simp only [List.length_cons] at hn ⊢
      by_cases h5 : n + 1 ≤ 5000
      · rw [bifT (by simp; omega), apdb (by simp; omega), Option.bind_some, cond_true]
        have ih := refute_fold (r := r) (l := l) cs (out ++ [plan_Cut.mk (lineP r l c.1).jobs c.2]) (n + 1) 0 (by omega) (by simp; omega)
        split
        · rename_i h
          rw [if_pos h] at ih
          exact ih
        · rename_i h
          rw [if_neg h] at ih
          obtain ⟨o, y, h1, h2⟩ := ih
          refine ⟨o, y, by rw [h1, show n + 1 + cs.length = n + (cs.length + 1) by omega], fun hle => ?_⟩
          rw [h2 (by omega), List.append_assoc]; rfl
      · rw [bifF (by simp; omega), Option.bind_some, cond_true]
        have ih := refute_fold (r := r) (l := l) cs out (n + 1) 0 (by omega) (by omega)
        split
        · rename_i h
          rw [if_pos h] at ih
          exact ih
        · rename_i h
          rw [if_neg h] at ih
          obtain ⟨o, y, h1, h2⟩ := ih
          exact ⟨o, y, by rw [h1, show n + 1 + cs.length = n + (cs.length + 1) by omega], fun hle => by omega⟩
def refuteR (r : RadarD) (l : List JobD) (most : Int) : List CutD × Int :=
  if checkE r l = 0 then (if inB most 1 8 then (if anyM (cutL l.length (firstLate r l) most.toNat []) then ([], 4) else if (cutL l.length (firstLate r l) most.toNat []).length > 5000 then ([], 9) else (cutL l.length (firstLate r l) most.toNat [], 0)) else ([], 3)) else ([], checkE r l)
theorem cut_count {N k : Nat} (h1 : 1 ≤ N) (h6 : N ≤ 6) (hk : k ≤ 8) (FL : List Int → Option Nat) (p : List Int) : (cutL N FL k p).length ≤ 1679616 := by
  have a := cutL_len h1 FL k p
  have b : N ^ k ≤ 6 ^ k := Nat.pow_le_pow_left h6 k
  have c : 6 ^ k ≤ 6 ^ 8 := Nat.pow_le_pow_right (by omega) hk
  have e8 : (6 : Nat) ^ 8 = 1679616 := by decide
  omega
theorem Refute_eq {F : Nat} (hF : 300 ≤ F) (r : plan_Radar) (l : List plan_Job) (most : Int) : plan_Refute F r l most = some ((refuteR (pr r) (dj l) most).1.map pcut, (refuteR (pr r) (dj l) most).2) := by
  rw [plan_Refute, plan_Check_eq (by omega), Option.bind_some, pin]
  unfold refuteR
  by_cases hc : checkE (pr r) (dj l) = 0
  · have h := OkL.of hc
    have hl6 := (checkE_ok hc).2.1
    rw [djl] at hl6
    rw [bifF (by simp [hc]), if_pos hc]
    by_cases hm : inB most 1 8 = true
    · have hm' := inB_iff.1 hm
      rw [bifF (by rw [hm]; rfl), if_pos hm, newDesk_eq (by omega) h, Option.bind_some]
      obtain ⟨k, hk⟩ : ∃ k : Nat, most = ((k + 1 : Nat) : Int) := ⟨(most - 1).toNat, by omega⟩
      have hk8 : k + 1 ≤ 8 := by omega
      subst hk
      rw [cuts1_eq h _ (by omega) (by omega), Int.toNat_natCast, djl]
      have hcnt := cut_count (k := k + 1) hl6.1 hl6.2 hk8 (FLp r l) []
      have hfold := refute_fold (r := r) (l := l) (cutL l.length (FLp r l) (k + 1) []) [] 0 0 (by omega) (by simp)
      simp only [Nat.zero_add, List.nil_append] at hfold
      by_cases ha : anyM (cutL l.length (FLp r l) (k + 1) []) = true
      · rw [if_pos ha] at hfold
        obtain ⟨o, m, ho⟩ := hfold
        rw [if_pos ha]
        rw [show ((0 : Int), ([] : List plan_Cut), (0 : Int), 0) = ((0 : Int), ([] : List plan_Cut), ((0 : Nat) : Int), 0) from rfl, ho, Option.bind_some]
        rfl
      · rw [if_neg ha] at hfold
        obtain ⟨o, y, ho, ho2⟩ := hfold
        rw [if_neg ha]
        rw [show ((0 : Int), ([] : List plan_Cut), (0 : Int), 0) = ((0 : Int), ([] : List plan_Cut), ((0 : Nat) : Int), 0) from rfl, ho, Option.bind_some]
        by_cases h5 : (cutL l.length (FLp r l) (k + 1) []).length > 5000
        · rw [if_pos h5]
          show (bif decide ((((cutL l.length (FLp r l) (k + 1) []).length : Nat) : Int) > 5000) then _ else _) = _
          rw [bifT (decide_eq_true (by omega))]; rfl
        · rw [if_neg h5, ho2 (by omega)]
          show (bif decide ((((cutL l.length (FLp r l) (k + 1) []).length : Nat) : Int) > 5000) then _ else _) = _
          rw [bifF (decide_eq_false (by omega))]
    · rw [bifT (by simp [hm]), if_neg hm]; rfl
  · rw [bifT (by simp [hc]), if_neg hc]; rfl
/-! ### Proofs -/
def cp (c : plan_Cut) : CutD := (c.Begin, c.Late)
theorem map_pcut_cp (l : List plan_Cut) : (l.map cp).map pcut = l := by
  rw [List.map_map]
  have : (pcut ∘ cp) = id := by funext c; rfl
  rw [this, List.map_id]
theorem equal_loop {a b : List Int} (hl : a.length = b.length) (h : a.length ≤ 1000) : ∀ n k : Nat, k ≤ a.length → a.length < n + k → slices_Equal_int_int_L2 a b n (k : Int) = some (decide (a.drop k = b.drop k)) := by
  intro n
  induction n with
  | zero => intro k h1 h2; omega
  | succ n ih =>
    intro k hk0 hk
    simp only [slices_Equal_int_int_L2, slices_Equal_int_int_B2, slices_Equal_int_int_K1]
    by_cases hc : k < a.length
    · have hd : ∀ a : List Int, k < a.length → a.drop k = a.getD k 0 :: a.drop (k + 1) := fun a hc => by
        rw [List.drop_eq_getElem_cons hc, List.getD_eq_getElem?_getD, List.getElem?_eq_getElem hc]; rfl
      rw [bifT (by simp; omega), getb 0 (by omega), Int.toNat_natCast, getb 0 (by omega), Int.toNat_natCast, hd a hc, hd b (by omega)]
      by_cases he : a.getD k 0 = b.getD k 0
      · have hb : (a.getD k 0 != b.getD k 0) = false := by rw [he]; simp
        rw [bifF hb, ckb (by omega), show (k : Int) + 1 = ((k + 1 : Nat) : Int) by omega, ih (k + 1) (by omega) (by omega), he]
        congr 1
        simp
      · have hb : (a.getD k 0 != b.getD k 0) = true := by simpa using he
        rw [bifT hb]
        congr 1
        symm
        exact decide_eq_false (fun h => he (List.cons.inj h).1)
    · rw [bifF (by simp; omega), List.drop_of_length_le (by omega), List.drop_of_length_le (by omega)]; rfl
theorem equal_eq {F : Nat} {a b : List Int} (h : a.length ≤ 1000) (hF : 1100 ≤ F) : slices_Equal_int_int F a b = some (decide (a = b)) := by
  rw [slices_Equal_int_int]
  by_cases hl : a.length = b.length
  · rw [bifF (by simp [hl])]
    have := equal_loop hl h F 0 (by omega) (by omega)
    rw [List.drop_zero, List.drop_zero] at this
    exact this
  · rw [bifT (by simp; omega)]
    congr 1
    symm
    exact decide_eq_false (fun e => hl (by rw [e]))
/-- What a cut must be. -/
def validB (r : RadarD) (l : List JobD) (y : List Int) (q : Int) : Bool := inB q 0 ((l.length : Int) - 1) && lateD r l y q
def wrongV : Value := .iface 127 (.agg #[])
def covR (o : Option (List CutD)) : Except Value (List plan_Cut) := match o with
  | some cs => .ok (cs.map pcut)
  | none => .error wrongV
theorem covR_some (cs : List CutD) : covR (some cs) = .ok (cs.map pcut) := rfl
theorem exc_ok {ε α β : Type} {x : α} {f : ε → β} {g : α → β} : exc (.ok x) f g = g x := rfl
theorem cover_deep {F : Nat} (hF : 1200 ≤ F) {r : plan_Radar} {l : List plan_Job} {p : List Int} (hp : 17 ≤ p.length) (proof : List plan_Cut) : plan_line_cover F (lineP r l p) proof = some (.error wrongV) := by
  obtain ⟨F, rfl⟩ : ∃ G, F = G + 1 := ⟨F - 1, by omega⟩
  rw [plan_line_cover, plan_line_cover_R]
  cases proof with
  | nil => rfl
  | cons c cs =>
    rw [bifF (by simp; omega), plan_line_cover_K1, getb ⟨[], 0⟩ (by simp)]
    simp only [show (lineP r l p).jobs = p from rfl]
    have hc : (bif (decide (((((c :: cs).getD (0 : Int).toNat ⟨[], 0⟩).Begin.length : Nat) : Int) < ((p.length : Nat) : Int))) then true else (decide (((p.length : Nat) : Int) > 16))) = true := by
      rw [decide_eq_true (show ((p.length : Nat) : Int) > 16 by omega)]
      cases decide (((((c :: cs).getD (0 : Int).toNat ⟨[], 0⟩).Begin.length : Nat) : Int) < ((p.length : Nat) : Int)) <;> rfl
    rw [hc]; rfl
theorem cp_pcut (l : List CutD) : (l.map pcut).map cp = l := by
  rw [List.map_map]
  have : (cp ∘ pcut) = id := by funext c; rfl
  rw [this, List.map_id]
theorem cover_head {F : Nat} (hF : 1200 ≤ F) {r : plan_Radar} {l : List plan_Job} (h : OkL r l) {p : List Int} (hp : okS l.length p) (h16 : p.length ≤ 16) (self_ : plan_line → List plan_Cut → Option (Except Value (List plan_Cut))) (c : plan_Cut) (cs : List plan_Cut) {X : Option (List CutD)}
    (hrec : plan_line_cover_L4 F self_ (lineP r l p) (deskP r l) F (c :: cs) 0 = some (covR X)) :
    plan_line_cover_R F self_ (lineP r l p) (c :: cs) = some (covR (if (cp c).1.take p.length = p ∧ p.length ≤ (cp c).1.length then (if p ≠ [] ∧ (cp c).1.length = p.length then (if validB (pr r) (dj l) p (cp c).2 then some (cs.map cp) else none) else X) else none)) := by
  have h6 := h.h6
  have h1 := h.h1
  have g0 : getI (c :: cs) 0 = some c := rfl
  rw [plan_line_cover_R, bifF (by simp; omega), plan_line_cover_K1, g0, Option.bind_some]
  simp only [show (lineP r l p).jobs = p from rfl]
  have d16 : decide (((p.length : Nat) : Int) > 16) = false := decide_eq_false (by omega)
  rw [d16]
  show _ = some (covR (if c.Begin.take p.length = p ∧ p.length ≤ c.Begin.length then (if p ≠ [] ∧ c.Begin.length = p.length then (if validB (pr r) (dj l) p c.Late then some (cs.map cp) else none) else X) else none))
  by_cases hlt : ((c.Begin.length : Nat) : Int) < ((p.length : Nat) : Int)
  · rw [decide_eq_true hlt, cond_true, cond_true, cond_true, cond_true, if_neg (by omega)]; rfl
  · rw [decide_eq_false hlt, cond_false, cond_false]
    have c1 : cutI c.Begin (0 : Int) ((p.length : Nat) : Int) = some (c.Begin.take p.length) := by
      rw [cutI, if_pos (by omega)]; simp
    rw [c1, Option.bind_some, equal_eq (by simp; omega) (by omega), Option.bind_some, cond_false]
    by_cases he : c.Begin.take p.length = p
    · rw [decide_eq_true he, Bool.not_true, cond_false, if_pos ⟨he, by omega⟩, plan_line_cover_K2]
      simp only [show (lineP r l p).jobs = p from rfl]
      by_cases hleaf : p ≠ [] ∧ c.Begin.length = p.length
      · have hp0 : 1 ≤ p.length := by
          cases p with
          | nil => exact absurd rfl hleaf.1
          | cons _ _ => simp
        rw [decide_eq_true (show ((p.length : Nat) : Int) > 0 by omega), cond_true, bifT (by simp [hleaf.2]), g0, Option.bind_some, if_pos hleaf]
        show ((some (deskP r l)).bind fun d32 => _) = _
        rw [Option.bind_some, show (deskP r l).takes.length = l.length by simp [deskP], ckb (by omega), pin]
        have c2 : cutI (c :: cs) 1 (((c :: cs).length : Nat) : Int) = some cs := by
          rw [cutI, if_pos (by simp; omega)]; simp
        unfold validB
        rw [djl]
        by_cases hin : inB c.Late 0 ((l.length : Int) - 1) = true
        · have hin' := inB_iff.1 hin
          rw [hin, Bool.not_true, cond_false, Option.bind_some, show plan_line.mk (some (deskP r l)) p (lineP r l p).at_ (lineP r l p).done = lineP r l p from rfl, late_eq h hp hp0 (by omega) (by omega) (by omega), Option.bind_some, cond_false, Bool.true_and, c2, Option.bind_some]
          cases lateD (pr r) (dj l) p c.Late with
          | true =>
            rw [Bool.not_true, cond_false, if_pos rfl]
            show _ = some (Except.ok ((cs.map cp).map pcut))
            rw [map_pcut_cp]
          | false => rw [Bool.not_false, cond_true, if_neg (by simp)]; rfl
        · have hin2 : inB c.Late 0 ((l.length : Int) - 1) = false := by simpa using hin
          rw [hin2, Bool.not_false, cond_true, cond_true, cond_true, Bool.false_and, if_neg (by simp)]; rfl
      · rw [if_neg hleaf]
        have hcond : (bif (decide (((p.length : Nat) : Int) > 0)) then (((c.Begin.length : Nat) : Int) == ((p.length : Nat) : Int)) else false) = false := by
          by_cases hp0 : p = []
          · subst hp0; rfl
          · have : c.Begin.length ≠ p.length := fun e => hleaf ⟨hp0, e⟩
            have h3 : (((c.Begin.length : Nat) : Int) == ((p.length : Nat) : Int)) = false := by simp; omega
            rw [h3]; cases decide (((p.length : Nat) : Int) > 0) <;> rfl
        rw [bifF hcond]
        show ((some (deskP r l)).bind fun d217 => _) = _
        rw [Option.bind_some]
        exact hrec
    · rw [decide_eq_false he, Bool.not_false, cond_true, if_neg (fun h => he h.1)]; rfl
theorem cover_eq {r : plan_Radar} {l : List plan_Job} (h : OkL r l) : ∀ d F : Nat, 1300 + d ≤ F → ∀ p, okS l.length p → p.length + d = 16 → ∀ proof : List plan_Cut, plan_line_cover F (lineP r l p) proof = some (covR (cov l.length (validB (pr r) (dj l)) d p (proof.map cp))) := by
  have h6 := h.h6
  have h1 := h.h1
  intro d
  induction d with
  | zero =>
    intro F hF p hp hl proof
    obtain ⟨F, rfl⟩ : ∃ G, F = G + 1 := ⟨F - 1, by omega⟩
    rw [plan_line_cover]
    cases proof with
    | nil => rfl
    | cons c cs =>
      have hrec : plan_line_cover_L4 F (plan_line_cover F) (lineP r l p) (deskP r l) F (c :: cs) 0 = some (covR none) := by
        obtain ⟨n, hn⟩ : ∃ n, F = n + 1 := ⟨F - 1, by omega⟩
        have : plan_line_cover_L4 F (plan_line_cover F) (lineP r l p) (deskP r l) (n + 1) (c :: cs) ((0 : Nat) : Int) = some (covR none) := by
          simp only [plan_line_cover_L4, plan_line_cover_B4, plan_line_cover_K3]
          rw [show (deskP r l).takes.length = l.length by simp [deskP], bifT (by simp; omega), show plan_line.mk (some (deskP r l)) (lineP r l p).jobs (lineP r l p).at_ (lineP r l p).done = lineP r l p from rfl, add_eq h hp (by omega) (by omega), Option.bind_some, cover_deep (by omega) (by simp; omega), Option.bind_some]
          rfl
        rw [← hn] at this
        exact this
      rw [cover_head (by omega) h hp (by omega) _ c cs hrec]
      rfl
  | succ d ihd =>
    intro F hF p hp hl proof
    obtain ⟨F, rfl⟩ : ∃ G, F = G + 1 := ⟨F - 1, by omega⟩
    rw [plan_line_cover]
    cases proof with
    | nil => rfl
    | cons c cs =>
      have loop : ∀ m i : Nat, i ≤ l.length → l.length < m + i → ∀ L : List plan_Cut, plan_line_cover_L4 F (plan_line_cover F) (lineP r l p) (deskP r l) m L (i : Int) = some (covR (covF (cov l.length (validB (pr r) (dj l)) d) p ((List.range l.length).drop i) (L.map cp))) := by
        intro m
        induction m with
        | zero => intro i h1 h2; omega
        | succ m ih =>
          intro i hi0 hi L
          simp only [plan_line_cover_L4, plan_line_cover_B4, plan_line_cover_K3]
          rw [show (deskP r l).takes.length = l.length by simp [deskP]]
          by_cases hc : i < l.length
          · have hpi : okS l.length (p ++ [(i : Int)]) := okS_snoc hp (by omega)
            rw [bifT (by simp; omega), show plan_line.mk (some (deskP r l)) (lineP r l p).jobs (lineP r l p).at_ (lineP r l p).done = lineP r l p from rfl, add_eq h hp (by omega) (by omega), Option.bind_some, ihd F (by omega) _ hpi (by simp; omega), Option.bind_some, range_drop hc, covF]
            cases cov l.length (validB (pr r) (dj l)) d (p ++ [(i : Int)]) (L.map cp) with
            | none => rfl
            | some rest =>
              rw [Option.bind_some, covR_some, exc_ok, ckb (by omega), show (i : Int) + 1 = ((i + 1 : Nat) : Int) by omega, ih (i + 1) (by omega) (by omega), cp_pcut]
          · rw [bifF (by simp; omega), List.drop_of_length_le (by simp; omega)]
            show some (Except.ok L) = some (Except.ok ((L.map cp).map pcut))
            rw [map_pcut_cp]
      have hrec := loop F 0 (by omega) (by omega) (c :: cs)
      rw [List.drop_zero] at hrec
      rw [cover_head (by omega) h hp (by omega) _ c cs hrec]
      rfl
def verifyR (r : RadarD) (l : List JobD) (proof : List CutD) : Int :=
  if checkE r l = 0 then (if proof.length > 5000 then 9 else (if cov l.length (validB r l) 16 [] proof = some [] then 0 else 20)) else checkE r l
theorem Verify_eq {F : Nat} (hF : 1400 ≤ F) (r : plan_Radar) (l : List plan_Job) (proof : List plan_Cut) : plan_Verify F r l proof = some (verifyR (pr r) (dj l) (proof.map cp)) := by
  rw [plan_Verify, plan_Check_eq (by omega), Option.bind_some]
  unfold verifyR
  by_cases hc : checkE (pr r) (dj l) = 0
  · have h := OkL.of hc
    rw [bifF (by simp [hc]), if_pos hc, List.length_map]
    by_cases h5 : proof.length > 5000
    · rw [bifT (by simp; omega), if_pos h5]
    · rw [bifF (by simp; omega), if_neg h5, newDesk_eq (by omega) h, Option.bind_some, show plan_line.mk (some (deskP r l)) [] [] 0 = lineP r l [] from rfl, cover_eq h 16 F (by omega) [] (okS_nil _) (by simp), Option.bind_some, djl]
      cases cov l.length (validB (pr r) (dj l)) 16 [] (proof.map cp) with
      | none => rw [if_neg (by simp)]; rfl
      | some rest =>
        show (bif decide ((((rest.map pcut).length : Nat) : Int) > 0) then (some 20) else (some 0)) = _
        cases rest with
        | nil => rfl
        | cons c cs => rw [if_neg (by simp), bifT (by simp)]
  · rw [bifT (by simp [hc]), if_neg hc]
end Go.Proofs.Ytejffembnkojjaa
