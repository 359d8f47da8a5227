/- Chapter 6, plain laws, part 6: late jobs, the sequences that begin well, the best round, on the plain programs. -/
import Derived.Test.YtejffembnkojjaaC9XL3
import Derived.Test.YtejffembnkojjaaC9PlanT
namespace Go.Proofs.Ytejffembnkojjaa
open Go Go.Eng Go.Plan
set_option linter.unusedVariables false
set_option linter.unusedSimpArgs false
set_option maxRecDepth 10000
/-! ### Late -/
theorem back_loop {r : plan_Radar} {l : List plan_Job} (h : OkL r l) {s : List Int} (hs : okS l.length s) (h60 : s.length ≤ 60) {j y : Int} (hj : 0 ≤ j ∧ j < l.length) (hy : 0 ≤ y ∧ y ≤ 200000000000) :
    ∀ m n : Nat, m ≤ s.length → m < n → ∀ b c, slices_Backward_int_int_1_L1 (plan_line_late_Y1 (lineP r l s) j y) s n ((m : Int) - 1) (b, c) =
      some (match occ j (s.take m) ((atD (pr r) (dj l) s).take m) with
        | [] => ((b, if m = 0 then c else 0), true)
        | x :: o => ((decide (y - lastO x o > ((dj l).getD j.toNat default).every), 1), false)) := by
  have hs' : okS (dj l).length s := by simpa using hs
  have hal := atD_len (pr r) (dj l) s
  intro m
  induction m with
  | zero =>
    intro n _ hn b c
    obtain ⟨n, rfl⟩ : ∃ k, n = k + 1 := ⟨n - 1, by omega⟩
    simp only [slices_Backward_int_int_1_L1, slices_Backward_int_int_1_B1]
    rw [bifF (by simp)]
    simp [occ]
  | succ m ih =>
    intro n hm hn b c
    obtain ⟨n, rfl⟩ : ∃ k, n = k + 1 := ⟨n - 1, by omega⟩
    simp only [slices_Backward_int_int_1_L1, slices_Backward_int_int_1_B1]
    have hat := atD_bd h.hr h.okJ s hs' m
    rw [show ((m + 1 : Nat) : Int) - 1 = (m : Int) by omega, bifT (by simp), getb 0 (by omega), Int.toNat_natCast]
    have hocc := occ_snoc j (s.getD m 0) ((atD (pr r) (dj l) s).getD m 0) (s.take m) ((atD (pr r) (dj l) s).take m) (by simp; omega)
    rw [take_snoc (by omega), take_snoc (by omega)] at hocc
    rw [hocc]
    simp only [plan_line_late_Y1]
    by_cases he : s.getD m 0 = j
    · have hb : (s.getD m 0 == j) = true := by rw [he]; simp
      rw [bifT hb, if_pos he]
      simp only [show (lineP r l s).at_ = atD (pr r) (dj l) s from rfl, show (lineP r l s).desk = some (deskP r l) from rfl]
      rw [getb 0 (by omega), Int.toNat_natCast, ckb (by omega), Option.bind_some, getb default (by simpa [deskP] using hj), Option.bind_some]
      rw [bifF rfl]
      have hlast : ∀ o : List Int, (match o ++ [(atD (pr r) (dj l) s).getD m 0] with | [] => (((b, if m + 1 = 0 then c else 0), true) : (Bool × Nat) × Bool) | x :: o => ((decide (y - lastO x o > ((dj l).getD j.toNat default).every), 1), false)) = ((decide (y - (atD (pr r) (dj l) s).getD m 0 > ((dj l).getD j.toNat default).every), 1), false) := by
        intro o
        cases o with
        | nil => rfl
        | cons x o => simp only [List.cons_append, lastO_snoc]
      rw [hlast, ← every_get (by omega)]
      rfl
    · have hb : (s.getD m 0 == j) = false := by simpa using he
      rw [bifF hb, if_neg he, List.append_nil, Option.bind_some, bifT rfl, ckb (by omega), ih n (by omega) (by omega)]
      cases occ j (s.take m) ((atD (pr r) (dj l) s).take m) with
      | nil => simp
      | cons x o => rfl
theorem late_eq {F : Nat} {r : plan_Radar} {l : List plan_Job} (h : OkL r l) {s : List Int} (hs : okS l.length s) (h1 : 1 ≤ s.length) (h60 : s.length ≤ 60) (hF : s.length < F) {j : Int} (hj : 0 ≤ j ∧ j < l.length) : plan_line_late F (lineP r l s) j = some (lateD (pr r) (dj l) s j) := by
  have hs' : okS (dj l).length s := by simpa using hs
  have hst := startD_bd h.hr h.okJ hs' (j := j) (by simpa using hj)
  have htk := tk_bd h.hr h.okJ (j := j) (by simpa using hj)
  have h0 := hs 0 (by omega)
  have hm := mv_bd h.hr h.okJ (i := j) (j := s.getD 0 0) (by simpa using hj) (by simpa using h0)
  have hal := atD_len (pr r) (dj l) s
  rw [plan_line_late, next_eq h hs h1 (by omega) hj, Option.bind_some]
  simp only [slices_Backward_int_int_1, show (lineP r l s).jobs = s from rfl]
  rw [ckb (by omega), back_loop h hs h60 hj (by omega) s.length F (Nat.le_refl _) hF, List.take_length, ← hal, List.take_length, Option.bind_some]
  unfold lateD
  cases occ j s (atD (pr r) (dj l) s) with
  | nil =>
    show ((getI (deskP r l).takes j).bind fun u105 => _) = _
    rw [getb 0 (by simpa [deskP] using hj), takes_get hj, ckb (by omega), getb [] (by simpa [deskP] using hj), getb 0 (by omega), show (0 : Int).toNat = 0 from rfl]
    rw [getb 0 (by simp only [deskP]; rw [map_getD' (d := default) _ (by omega)]; simpa using h0), moves_get hj h0, ckb (by omega), getb default (by simpa [deskP] using hj)]
    rw [← every_get (by omega)]
    rfl
  | cons x o => rfl
def firstLate (r : RadarD) (l : List JobD) (s : List Int) : Option Nat := (List.range l.length).find? fun j => lateD r l s j
theorem anyLate_first (r : RadarD) (l : List JobD) (s : List Int) : anyLate r l s = (firstLate r l s).isSome := by
  unfold anyLate firstLate
  cases h : (List.range l.length).find? (fun j : Nat => lateD r l s j) with
  | none =>
    rw [List.find?_eq_none] at h
    show _ = false
    rw [List.any_eq_false]
    exact fun x hx => h x hx
  | some j =>
    have h1 := List.mem_of_find?_eq_some h
    have h2 := List.find?_some h
    show _ = true
    rw [List.any_eq_true]
    exact ⟨j, h1, h2⟩
theorem range_drop {n k : Nat} (h : k < n) : (List.range n).drop k = k :: (List.range n).drop (k + 1) := by
  rw [List.drop_eq_getElem_cons (by simpa using h)]; simp
theorem first_loop {F : Nat} {r : plan_Radar} {l : List plan_Job} (h : OkL r l) {s : List Int} (hs : okS l.length s) (h1 : 1 ≤ s.length) (h60 : s.length ≤ 60) (hF : s.length < F) :
    ∀ n k : Nat, k ≤ l.length → l.length < n + k → plan_line_first_L2 F (lineP r l s) (deskP r l) n (k : Int) =
      some (match ((List.range l.length).drop k).find? (fun j : Nat => lateD (pr r) (dj l) s j) with | some j => ((j : Int), true) | none => (0, false)) := by
  have h6 := h.h6
  intro n
  induction n with
  | zero => intro k h1 h2; omega
  | succ n ih =>
    intro k hk0 hk
    simp only [plan_line_first_L2, plan_line_first_B2, plan_line_first_K1]
    rw [show (deskP r l).takes.length = l.length by simp [deskP]]
    by_cases hc : k < l.length
    · rw [bifT (by simp; omega), show plan_line.mk (some (deskP r l)) (lineP r l s).jobs (lineP r l s).at_ (lineP r l s).done = lineP r l s from rfl, late_eq h hs h1 h60 hF (by omega), Option.bind_some, range_drop hc, List.find?_cons]
      cases hb : lateD (pr r) (dj l) s k with
      | true => rfl
      | false =>
        rw [bifF rfl, ckb (by omega), show (k : Int) + 1 = ((k + 1 : Nat) : Int) by omega]
        exact ih (k + 1) (by omega) (by omega)
    · rw [bifF (by simp; omega), List.drop_of_length_le (by simp; omega)]; rfl
theorem first_eq {F : Nat} {r : plan_Radar} {l : List plan_Job} (h : OkL r l) {s : List Int} (hs : okS l.length s) (h1 : 1 ≤ s.length) (h60 : s.length ≤ 60) (hF : 60 < F) :
    plan_line_first F (lineP r l s) = some (match firstLate (pr r) (dj l) s with | some j => ((j : Int), true) | none => (0, false)) := by
  have h6 := h.h6
  rw [plan_line_first]
  show ((some (deskP r l)).bind fun d36 => _) = _
  rw [Option.bind_some]
  have := first_loop (F := F) h hs h1 h60 (by omega) F 0 (by omega) (by omega)
  rw [List.drop_zero] at this
  unfold firstLate
  rw [djl]
  exact this
/-! ### Iterators -/
def foldB {σ α : Type} (body : σ → α → Option (σ × Bool)) : σ → List α → Option (σ × Bool)
  | s, [] => some (s, true)
  | s, x :: l => (body s x).bind fun q => bif q.2 then foldB body q.1 l else some (q.1, false)
theorem foldB_append {σ α : Type} (body : σ → α → Option (σ × Bool)) : ∀ (s : σ) (a b : List α), foldB body s (a ++ b) = (foldB body s a).bind fun q => bif q.2 then foldB body q.1 b else some (q.1, false)
  | s, [], b => by simp [foldB]
  | s, x :: a, b => by
    simp only [List.cons_append, foldB]
    cases body s x with
    | none => rfl
    | some q =>
      simp only [Option.bind_some]
      cases hq : q.2 with
      | true => simp only [cond_true]; exact foldB_append body q.1 a b
      | false => simp
def dup {σ : Type} (q : σ × Bool) : σ × Bool × Bool := (q.1, q.2, q.2)
theorem begun_eq {σ : Type} {r : plan_Radar} {l : List plan_Job} (h : OkL r l) (body : σ → plan_line → Option (σ × Bool)) {n : Nat} (hn : n ≤ 50) :
    ∀ k F : Nat, 100 + k ≤ F → ∀ p, okS l.length p → p.length + (k + 1) = n → ∀ s, pplan_desk_begun_1_1 F (lineP r l p) (some (deskP r l)) (n : Int) body s = (foldB body s ((prn l.length (anyLate (pr r) (dj l)) (k + 1) p).map (lineP r l))).map dup := by
  have h6 := h.h6
  intro k
  induction k with
  | zero =>
    intro F hF p hp hl s
    obtain ⟨F, rfl⟩ : ∃ G, F = G + 1 := ⟨F - 1, by omega⟩
    simp only [pplan_desk_begun_1_1, pplan_desk_begun_1_1_R, Option.bind_some]
    have : ∀ m i : Nat, i ≤ l.length → l.length < m + i → ∀ s, pplan_desk_begun_1_1_L2 F body (pplan_desk_begun_1_1 F) (lineP r l p) (n : Int) (deskP r l) m (i : Int) s =
        (foldB body s ((((List.range l.length).drop i).flatMap fun j : Nat => [p ++ [(j : Int)]]).map (lineP r l))).map dup := by
      intro m
      induction m with
      | zero => intro i h1 h2; omega
      | succ m ih =>
        intro i hi0 hi s
        simp only [pplan_desk_begun_1_1_L2, pplan_desk_begun_1_1_B2, pplan_desk_begun_1_1_K1, pplan_desk_begun_1_1_K3]
        rw [show (deskP r l).takes.length = l.length by simp [deskP]]
        by_cases hc : i < l.length
        · rw [bifT (by simp; omega), add_eq h hp (by omega) (by omega), Option.bind_some, bifT (by simp [lineP]; omega), range_drop hc]
          simp only [List.flatMap_cons, List.map_append, List.map_cons, List.map_nil, List.cons_append, List.nil_append, foldB]
          cases hb : body s (lineP r l (p ++ [(i : Int)])) with
          | none => rfl
          | some q =>
            rw [Option.bind_some, Option.bind_some]
            cases hq : q.2 with
            | true =>
              rw [bifT rfl, bifT rfl, ckb (by omega), show (i : Int) + 1 = ((i + 1 : Nat) : Int) by omega]
              exact ih (i + 1) (by omega) (by omega) q.1
            | false => rfl
        · rw [bifF (by simp; omega), List.drop_of_length_le (by simp; omega)]; rfl
    have h2 := this F 0 (by omega) (by omega) s
    rw [List.drop_zero] at h2
    simp only [prn, if_true]
    exact h2
  | succ k ihk =>
    intro F hF p hp hl s
    obtain ⟨F, rfl⟩ : ∃ G, F = G + 1 := ⟨F - 1, by omega⟩
    simp only [pplan_desk_begun_1_1, pplan_desk_begun_1_1_R, Option.bind_some]
    have : ∀ m i : Nat, i ≤ l.length → l.length < m + i → ∀ s, pplan_desk_begun_1_1_L2 F body (pplan_desk_begun_1_1 F) (lineP r l p) (n : Int) (deskP r l) m (i : Int) s =
        (foldB body s ((((List.range l.length).drop i).flatMap fun j : Nat => bif anyLate (pr r) (dj l) (p ++ [(j : Int)]) then [] else prn l.length (anyLate (pr r) (dj l)) (k + 1) (p ++ [(j : Int)])).map (lineP r l))).map dup := by
      intro m
      induction m with
      | zero => intro i h1 h2; omega
      | succ m ih =>
        intro i hi0 hi s
        simp only [pplan_desk_begun_1_1_L2, pplan_desk_begun_1_1_B2, pplan_desk_begun_1_1_K1, pplan_desk_begun_1_1_K3]
        rw [show (deskP r l).takes.length = l.length by simp [deskP]]
        by_cases hc : i < l.length
        · have hpi : okS l.length (p ++ [(i : Int)]) := okS_snoc hp (by omega)
          rw [bifT (by simp; omega), add_eq h hp (by omega) (by omega), Option.bind_some, bifF (by simp [lineP]; omega), first_eq h hpi (by simp) (by simp; omega) (by omega), Option.bind_some, range_drop hc]
          simp only [List.flatMap_cons, List.map_append, foldB_append]
          have hi1 := ih (i + 1) (by omega) (by omega)
          rw [show ((i + 1 : Nat) : Int) = (i : Int) + 1 by omega] at hi1
          cases hf : firstLate (pr r) (dj l) (p ++ [(i : Int)]) with
          | some j =>
            have ha : anyLate (pr r) (dj l) (p ++ [(i : Int)]) = true := by rw [anyLate_first, hf]; rfl
            rw [ha]
            dsimp only
            rw [Bool.not_true, cond_false, ckb (by omega), hi1 s, cond_true, List.map_nil, foldB, Option.bind_some, cond_true]
          | none =>
            have ha : anyLate (pr r) (dj l) (p ++ [(i : Int)]) = false := by rw [anyLate_first, hf]; rfl
            rw [ha]
            dsimp only
            rw [Bool.not_false, cond_true, ihk F (by omega) _ hpi (by simp; omega) s]
            rw [cond_false]
            cases foldB body s ((prn l.length (anyLate (pr r) (dj l)) (k + 1) (p ++ [(i : Int)])).map (lineP r l)) with
            | none => rfl
            | some q =>
              simp only [Option.map_some, Option.bind_some, dup]
              cases hq : q.2 with
              | true =>
                rw [cond_true, Bool.not_true, cond_false, ckb (by omega), cond_true]
                exact hi1 q.1
              | false => rw [cond_false, Bool.not_false, cond_true, cond_false]; rfl
        · rw [bifF (by simp; omega), List.drop_of_length_le (by simp; omega)]; rfl
    have h2 := this F 0 (by omega) (by omega) s
    rw [List.drop_zero] at h2
    rw [show prn l.length (anyLate (pr r) (dj l)) (k + 1 + 1) p = (List.range l.length).flatMap fun j : Nat => bif anyLate (pr r) (dj l) (p ++ [(j : Int)]) then [] else prn l.length (anyLate (pr r) (dj l)) (k + 1) (p ++ [(j : Int)]) from by simp [prn]]
    exact h2
theorem begun1_eq {σ : Type} {r : plan_Radar} {l : List plan_Job} (h : OkL r l) (body : σ → plan_line → Option (σ × Bool)) {k F : Nat} (hk : k < 50) (hF : 200 ≤ F) (s : σ) :
    pplan_desk_begun_1 F (some (deskP r l)) ((k + 1 : Nat) : Int) body s = foldB body s ((prn l.length (anyLate (pr r) (dj l)) (k + 1) []).map (lineP r l)) := by
  rw [pplan_desk_begun_1]
  have := begun_eq h body (n := k + 1) (by omega) k F (by omega) [] (okS_nil _) (by simp) s
  rw [show plan_line.mk (some (deskP r l)) [] [] 0 = lineP r l [] from rfl, this]
  cases foldB body s ((prn l.length (anyLate (pr r) (dj l)) (k + 1) []).map (lineP r l)) with
  | none => rfl
  | some q =>
    obtain ⟨a, b⟩ := q
    cases b <;> rfl
/-! ### Kept -/
theorem kept_loop {r : plan_Radar} {l : List plan_Job} (h : OkL r l) {s g : List Int} (hg : g.length = l.length) : ∀ n q : Nat, q ≤ l.length → l.length < n + q → plan_line_kept_L2 (lineP r l s) g n (q : Int) = some (keptD ((dj l).drop q) (g.drop q)) := by
  have h6 := h.h6
  intro n
  induction n with
  | zero => intro k h1 h2; omega
  | succ n ih =>
    intro q hq0 hq
    simp only [plan_line_kept_L2, plan_line_kept_B2, plan_line_kept_K1]
    by_cases hc : q < l.length
    · rw [bifT (by simp; omega), getb 0 (by omega), Int.toNat_natCast, keptD_step (by simpa using hc) (by omega)]
      have hd : ∀ f : plan_Job → Option Bool, ((lineP r l s).desk.bind fun d127 => (getI d127.jobs (q : Int)).bind f) = f (l.getD q default) := by
        intro f
        show ((getI l (q : Int)).bind f) = _
        rw [getb default (by omega), Int.toNat_natCast]
      rw [hd, every_get hc]
      by_cases hz : g.getD q 0 = 0
      · rw [bifT (by rw [hz]; rfl), keptD_no (by rw [hz]; rfl)]
      · have hzz : (g.getD q 0 == 0) = false := by simpa using hz
        rw [bifF hzz, hzz]
        by_cases hle : g.getD q 0 > ((dj l).getD q default).every
        · have : decide (g.getD q 0 > ((dj l).getD q default).every) = true := decide_eq_true hle
          rw [this]; rfl
        · have : decide (g.getD q 0 > ((dj l).getD q default).every) = false := decide_eq_false hle
          rw [this, bifF rfl, ckb (by omega), show (q : Int) + 1 = ((q + 1 : Nat) : Int) by omega, ih (q + 1) (by omega) (by omega)]
          rfl
    · rw [bifF (by simp; omega), List.drop_of_length_le (by simp; omega)]; rfl
theorem kept_eq {F : Nat} {r : plan_Radar} {l : List plan_Job} (h : OkL r l) {s : List Int} (hs : okS l.length s) (h1 : 1 ≤ s.length) (h60 : s.length ≤ 60) (hF : 100 ≤ F) : plan_line_kept F (lineP r l s) = some (keptB (pr r) (dj l) s) := by
  have h6 := h.h6
  rw [plan_line_kept, gaps_eq h hs h1 h60 (by omega), Option.bind_some]
  have := kept_loop h (s := s) (gapsD_len (pr r) (dj l) s l.length) F 0 (by omega) (by omega)
  simp only [List.drop_zero] at this
  unfold keptB
  rw [djl]
  exact this
/-! ### Best -/
theorem best_fold {F : Nat} (hF : 100 ≤ F) {r : plan_Radar} {l : List plan_Job} (h : OkL r l) (K : List Int) (x : Int) : ∀ (ss : List (List Int)) (c : Nat), (∀ s ∈ ss, okS l.length s ∧ 1 ≤ s.length ∧ s.length ≤ 60) →
    foldB (plan_Best_Y3 F) (K, x, c) (ss.map (lineP r l)) = some (match ss.find? (keptB (pr r) (dj l)) with | some s => ((s, 0, 1), false) | none => ((K, x, if ss = [] then c else 0), true))
  | [], c, _ => by simp [foldB]
  | s :: ss, c, hall => by
    obtain ⟨h1, h2, h3⟩ := hall s (by simp)
    simp only [List.map_cons, foldB, plan_Best_Y3]
    rw [kept_eq h h1 h2 h3 hF, Option.bind_some, List.find?_cons]
    cases hk : keptB (pr r) (dj l) s with
    | true => rfl
    | false =>
      rw [bifF rfl, Option.bind_some, bifT rfl, best_fold hF h K x ss 0 (fun t ht => hall t (by simp [ht]))]
      cases ss.find? (keptB (pr r) (dj l)) with
      | some t => rfl
      | none => simp
theorem Best_loop {F : Nat} (hF : 300 ≤ F) {r : plan_Radar} {l : List plan_Job} (h : OkL r l) {most : Nat} (hm : most ≤ 8) : ∀ n k : Nat, 1 ≤ k → k ≤ most + 1 → most + 1 < n + k → plan_Best_L2 F (most : Int) (some (deskP r l)) n [] 0 (k : Int) = some (bestFrom (keptB (pr r) (dj l)) l.length (most + 1 - k) k) := by
  intro n
  induction n with
  | zero => intro k h1 h2 h3; omega
  | succ n ih =>
    intro k hk1 hk0 hk
    simp only [plan_Best_L2, plan_Best_B2, plan_Best_K1]
    by_cases hc : k ≤ most
    · obtain ⟨k, rfl⟩ : ∃ c, k = c + 1 := ⟨k - 1, by omega⟩
      have hb := begun1_eq (F := F) h (plan_Best_Y3 F) (k := k) (by omega) (by omega) ([], 0, 0)
      have hf := best_fold (F := F) (by omega) h [] 0 (prn l.length (anyLate (pr r) (dj l)) (k + 1) []) 0 (fun s hs => by
        obtain ⟨t, rfl, h1, h2⟩ := prn_mem _ _ _ _ _ hs
        exact ⟨h2, by omega, by omega⟩)
      rw [bifT (by simp; omega), hb, hf, Option.bind_some, show most + 1 - (k + 1) = (most - (k + 1)) + 1 by omega, bestFrom]
      have hbf := best_find h.hr h.okJ k
      rw [djl] at hbf
      rw [hbf]
      cases (seqs l.length (k + 1)).find? (keptB (pr r) (dj l)) with
      | some s => rfl
      | none =>
        dsimp only
        rw [cond_true, ckb (by omega), show ((k + 1 : Nat) : Int) + 1 = ((k + 2 : Nat) : Int) by omega]
        have := ih (k + 2) (by omega) (by omega) (by omega)
        rw [show most + 1 - (k + 2) = most - (k + 1) by omega] at this
        exact this
    · rw [bifF (by simp; omega), show most + 1 - k = 0 by omega]; rfl
def bestR (r : RadarD) (l : List JobD) (most : Int) : List Int × Int :=
  if checkE r l = 0 then (if inB most 1 8 then bestFrom (keptB r l) l.length most.toNat 1 else ([], 3)) else ([], checkE r l)
theorem Best_eq {F : Nat} (hF : 300 ≤ F) (r : plan_Radar) (l : List plan_Job) (most : Int) : plan_Best F r l most = some (bestR (pr r) (dj l) most) := by
  rw [plan_Best, plan_Check_eq (by omega), Option.bind_some, pin]
  unfold bestR
  by_cases hc : checkE (pr r) (dj l) = 0
  · have h := OkL.of hc
    rw [bifF (by simp [hc]), if_pos hc]
    by_cases hm : inB most 1 8 = true
    · have hm' := inB_iff.1 hm
      rw [bifF (by rw [hm]; rfl), if_pos hm, newDesk_eq (by omega) h, Option.bind_some]
      have := Best_loop hF h (most := most.toNat) (by omega) F 1 (by omega) (by omega) (by omega)
      rw [show ((most.toNat : Nat) : Int) = most by omega, Nat.add_sub_cancel] at this
      rw [djl]
      exact this
    · rw [bifT (by simp [hm]), if_neg hm]
  · rw [bifT (by simp [hc]), if_neg hc]
end Go.Proofs.Ytejffembnkojjaa
