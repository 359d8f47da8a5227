/- Chapter 6, plain laws, part 6: late jobs, the sequences that begin well, the best round, on the plain programs. -/
import Derived.Test.YtejffembnkojjaaC10XL3
import Derived.Test.YtejffembnkojjaaC10PlanT
namespace Go.Proofs.Ytejffembnkojjaa
open Go Go.Eng Go.Plan
set_option linter.unusedVariables false
set_option linter.unusedSimpArgs false
set_option maxRecDepth 10000
/-! ### Late -/
theorem back_loop {r : plan_Radar} {l : List plan_Job} (h : OkL r l) {s : List Int} (hs : okS l.length s) (h60 : s.length ≤ 60) {j y : Int} (hj : 0 ≤ j ∧ j < l.length) (hy : 0 ≤ y ∧ y ≤ 200000000000) :
    ∀ m n : Nat, m ≤ s.length → m < n → ∀ b c, slices_Backward_int_int_1_L1 (plan_line_late_Y1 (lineP r l s) j y) s n ((m : Int) - 1) (b, c) =
      some (match occ j (s.take m) ((atD (pr r) (dj l) s).take m) with
        | [] => ((b, if m = 0 then c else 0), true)
        | x :: o => ((decide (y - lastO x o > ((dj l).getD j.toNat default).every), 1), false)) := by
  have hs' : okS (dj l).length s := by simpa using hs
  have hal := atD_len (pr r) (dj l) s
  intro m
  induction m with
  | zero =>
    intro n _ hn b c
    obtain ⟨n, rfl⟩ : ∃ k, n = k + 1 := ⟨n - 1, by omega⟩
    simp only [slices_Backward_int_int_1_L1, slices_Backward_int_int_1_B1]
    rw [bifF (by simp)]
    simp [occ]
  | succ m ih =>
    intro n hm hn b c
    obtain ⟨n, rfl⟩ : ∃ k, n = k + 1 := ⟨n - 1, by omega⟩
    simp only [slices_Backward_int_int_1_L1, slices_Backward_int_int_1_B1]
    have hat := atD_bd h.hr h.okJ s hs' m
    rw [show ((m + 1 : Nat) : Int) - 1 = (m : Int) by omega, bifT (by simp), getb 0 (by omega), Int.toNat_natCast]
    have hocc := occ_snoc j (s.getD m 0) ((atD (pr r) (dj l) s).getD m 0) (s.take m) ((atD (pr r) (dj l) s).take m) (by simp; omega)
    rw [take_snoc (by omega), take_snoc (by omega)] at hocc
    rw [hocc]
    simp only [plan_line_late_Y1]
    by_cases he : s.getD m 0 = j
    · have hb : (s.getD m 0 == j) = true := by rw [he]; simp
      rw [bifT hb, if_pos he]
      simp only [show (lineP r l s).at_ = atD (pr r) (dj l) s from rfl, show (lineP r l s).desk = some (deskP r l) from rfl]
      rw [getb 0 (by omega), Int.toNat_natCast, ckb (by omega), Option.bind_some, getb default (by simpa [deskP] using hj), Option.bind_some]
      rw [bifF rfl]
      have hlast : ∀ o : List Int, (match o ++ [(atD (pr r) (dj l) s).getD m 0] with | [] => (((b, if m + 1 = 0 then c else 0), true) : (Bool × Nat) × Bool) | x :: o => ((decide (y - lastO x o > ((dj l).getD j.toNat default).every), 1), false)) = ((decide (y - (atD (pr r) (dj l) s).getD m 0 > ((dj l).getD j.toNat default).every), 1), false) := by
        intro o
        cases o with
        | nil => rfl
        | cons x o => simp only [List.cons_append, lastO_snoc]
      rw [hlast, ← every_get (by omega)]
      rfl
    · have hb : (s.getD m 0 == j) = false := by simpa using he
      rw [bifF hb, if_neg he, List.append_nil, Option.bind_some, bifT rfl, ckb (by omega), ih n (by omega) (by omega)]
      cases occ j (s.take m) ((atD (pr r) (dj l) s).take m) with
      | nil => simp
      | cons x o => rfl
theorem late_eq {F : Nat} {r : plan_Radar} {l : List plan_Job} (h : OkL r l) {s : List Int} (hs : okS l.length s) (h1 : 1 ≤ s.length) (h60 : s.length ≤ 60) (hF : s.length < F) {j : Int} (hj : 0 ≤ j ∧ j < l.length) : plan_line_late F (lineP r l s) j = some (lateD (pr r) (dj l) s j) := by
  have hs' : okS (dj l).length s := by simpa using hs
  have hst := startD_bd h.hr h.okJ hs' (j := j) (by simpa using hj)
  have htk := tk_bd h.hr h.okJ (j := j) (by simpa using hj)
  have h0 := hs 0 (by omega)
  have hm := mv_bd h.hr h.okJ (i := j) (j := s.getD 0 0) (by simpa using hj) (by simpa using h0)
  have hal := atD_len (pr r) (dj l) s
  rw [plan_line_late, next_eq h hs h1 (by omega) hj, Option.bind_some]
  simp only [slices_Backward_int_int_1, show (lineP r l s).jobs = s from rfl]
  rw [ckb (by omega), back_loop h hs h60 hj (by omega) s.length F (Nat.le_refl _) hF, List.take_length, ← hal, List.take_length, Option.bind_some]
  unfold lateD
  cases occ j s (atD (pr r) (dj l) s) with
  | nil =>
    show ((getI (deskP r l).takes j).bind fun u105 => _) = _
    rw [getb 0 (by simpa [deskP] using hj), takes_get hj, ckb (by omega), getb [] (by simpa [deskP] using hj), getb 0 (by omega), show (0 : Int).toNat = 0 from rfl]
    rw [getb 0 (by simp only [deskP]; rw [map_getD' (d := default) _ (by omega)]; simpa using h0), moves_get hj h0, ckb (by omega), getb default (by simpa [deskP] using hj)]
    rw [← every_get (by omega)]
    rfl
  | cons x o => rfl
def firstLate (r : RadarD) (l : List JobD) (s : List Int) : Option Nat := (List.range l.length).find? fun j => lateD r l s j
theorem range_drop {n k : Nat} (h : k < n) : (List.range n).drop k = k :: (List.range n).drop (k + 1) := by
  rw [List.drop_eq_getElem_cons (by simpa using h)]; simp
theorem first_loop {F : Nat} {r : plan_Radar} {l : List plan_Job} (h : OkL r l) {s : List Int} (hs : okS l.length s) (h1 : 1 ≤ s.length) (h60 : s.length ≤ 60) (hF : s.length < F) :
    ∀ n k : Nat, k ≤ l.length → l.length < n + k → plan_line_first_L2 F (lineP r l s) (deskP r l) n (k : Int) =
      some (match ((List.range l.length).drop k).find? (fun j : Nat => lateD (pr r) (dj l) s j) with | some j => ((j : Int), true) | none => (0, false)) := by
  have h6 := h.h6
  intro n
  induction n with
  | zero => intro k h1 h2; omega
  | succ n ih =>
    intro k hk0 hk
    simp only [plan_line_first_L2, plan_line_first_B2, plan_line_first_K1]
    rw [show (deskP r l).takes.length = l.length by simp [deskP]]
    by_cases hc : k < l.length
    · rw [bifT (by simp; omega), show plan_line.mk (some (deskP r l)) (lineP r l s).jobs (lineP r l s).at_ (lineP r l s).done = lineP r l s from rfl, late_eq h hs h1 h60 hF (by omega), Option.bind_some, range_drop hc, List.find?_cons]
      cases hb : lateD (pr r) (dj l) s k with
      | true => rfl
      | false =>
        rw [bifF rfl, ckb (by omega), show (k : Int) + 1 = ((k + 1 : Nat) : Int) by omega]
        exact ih (k + 1) (by omega) (by omega)
    · rw [bifF (by simp; omega), List.drop_of_length_le (by simp; omega)]; rfl
theorem first_eq {F : Nat} {r : plan_Radar} {l : List plan_Job} (h : OkL r l) {s : List Int} (hs : okS l.length s) (h1 : 1 ≤ s.length) (h60 : s.length ≤ 60) (hF : 60 < F) :
    plan_line_first F (lineP r l s) = some (match firstLate (pr r) (dj l) s with | some j => ((j : Int), true) | none => (0, false)) := by
  have h6 := h.h6
  rw [plan_line_first]
  show ((some (deskP r l)).bind fun d36 => _) = _
  rw [Option.bind_some]
  have := first_loop (F := F) h hs h1 h60 (by omega) F 0 (by omega) (by omega)
  rw [List.drop_zero] at this
  unfold firstLate
  rw [djl]
  exact this
/-! ### Iterators -/
def foldB {σ α : Type} (body : σ → α → Option (σ × Bool)) : σ → List α → Option (σ × Bool)
  | s, [] => some (s, true)
  | s, x :: l => (body s x).bind fun q => bif q.2 then foldB body q.1 l else some (q.1, false)
theorem foldB_append {σ α : Type} (body : σ → α → Option (σ × Bool)) : ∀ (s : σ) (a b : List α), foldB body s (a ++ b) = (foldB body s a).bind fun q => bif q.2 then foldB body q.1 b else some (q.1, false)
  | s, [], b => by simp [foldB]
  | s, x :: a, b => by
    simp only [List.cons_append, foldB]
    cases body s x with
    | none => rfl
    | some q =>
      simp only [Option.bind_some]
      cases hq : q.2 with
      | true => simp only [cond_true]; exact foldB_append body q.1 a b
      | false => simp
def dup {σ : Type} (q : σ × Bool) : σ × Bool × Bool := (q.1, q.2, q.2)
/-! ### Kept -/
/-! ### Best -/
end Go.Proofs.Ytejffembnkojjaa
