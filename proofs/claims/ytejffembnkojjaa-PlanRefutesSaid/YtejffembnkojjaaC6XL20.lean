/- Chapter 6, plain laws, part 20: the document's late jobs and cuts. -/
import Derived.Test.YtejffembnkojjaaC6XL7
import Derived.Test.YtejffembnkojjaaC6XL18
namespace Go.Proofs.Ytejffembnkojjaa
open Go Go.Eng Go.Plan
set_option linter.unusedVariables false
set_option linter.unusedSimpArgs false
set_option maxRecDepth 10000
/-! ### Late -/
theorem every_getR {l : List ref06_Job} {q : Nat} (h : q < l.length) : (l.getD q default).Every = ((ej l).getD q default).every := by
  rw [← getD_map_rj h default]; rfl
theorem rLate_loop {F : Nat} (hF : 100 ≤ F) {r : ref06_Radar} {l : List ref06_Job} (h : OkR r l) {s : List Int} (hs : okS l.length s) (h1 : 1 ≤ s.length) (h60 : s.length ≤ 60) {j : Int} (hj : 0 ≤ j ∧ j < l.length) :
    ∀ m n : Nat, m ≤ s.length → m < n → (∀ k, m ≤ k → k < s.length → s.getD k 0 ≠ j) → ref06_Late_L2 F r l s j (atD (rr r) (ej l) s, startD (rr r) (ej l) s j) n ((m : Int) - 1) = some (lateD (rr r) (ej l) s j) := by
  have hs' : okS (ej l).length s := by simpa using hs
  have hal := atD_len (rr r) (ej l) s
  have hst := startD_bd h.hr h.okJ hs' (j := j) (by simpa using hj)
  have htk := tk_bd h.hr h.okJ (j := j) (by simpa using hj)
  have h0 := hs 0 (by omega)
  have hm := mv_bd h.hr h.okJ (i := j) (j := s.getD 0 0) (by simpa using hj) (by simpa using h0)
  intro m
  induction m with
  | zero =>
    intro n _ hn hno
    obtain ⟨n, rfl⟩ : ∃ k, n = k + 1 := ⟨n - 1, by omega⟩
    simp only [ref06_Late_L2, ref06_Late_B2, ref06_Late_K1]
    have hocc : occ j s (atD (rr r) (ej l) s) = [] := occ_nil (fun hm => by
      obtain ⟨k, hk, he⟩ := List.mem_iff_getElem.1 hm
      exact hno k (by omega) hk (by rw [List.getD_eq_getElem?_getD, List.getElem?_eq_getElem hk]; exact he))
    unfold lateD
    rw [hocc, bifF (by simp), getb default (by omega), ref06_time_eq hF h.hr (h.get (by omega)), Option.bind_some, tk_ref hj, ckb (by omega), getb default (by omega), getb 0 (by omega), show (0 : Int).toNat = 0 from rfl, getb default (by omega), ref_move_eq h.hr (h.get (by omega)) (h.get (by omega)), Option.bind_some, mv_ref hj h0, ckb (by omega), getb default (by omega), every_getR (by omega)]
  | succ m ih =>
    intro n hm2 hn hno
    obtain ⟨n, rfl⟩ : ∃ k, n = k + 1 := ⟨n - 1, by omega⟩
    simp only [ref06_Late_L2, ref06_Late_B2]
    have hat := atD_bd h.hr h.okJ s hs' m
    rw [show ((m + 1 : Nat) : Int) - 1 = (m : Int) by omega, bifT (by simp), getb 0 (by omega), Int.toNat_natCast]
    by_cases he : s.getD m 0 = j
    · have hb : (s.getD m 0 == j) = true := by rw [he]; simp
      have hocc := occ_last' (j := j) (s := s) (a := atD (rr r) (ej l) s) (p := m) (m := s.length) hal (by omega) (Nat.le_refl _) he (fun k k1 k2 => hno k (by omega) k2)
      rw [List.take_length, ← hal, List.take_length] at hocc
      rw [bifT hb, getb 0 (by omega), Int.toNat_natCast, ckb (by omega), getb default (by omega), every_getR (by omega)]
      unfold lateD
      rw [hocc]
      congr 1
      cases occ j (s.take m) ((atD (rr r) (ej l) s).take m) with
      | nil => rfl
      | cons x o => simp only [List.cons_append, lastO_snoc]
    · have hb : (s.getD m 0 == j) = false := by simpa using he
      rw [bifF hb, ckb (by omega)]
      refine ih n (by omega) (by omega) (fun k k1 k2 => ?_)
      by_cases hk : k = m
      · subst hk; exact he
      · exact hno k (by omega) k2
theorem ref_Late_eq {F : Nat} (hF : 130 ≤ F) {r : ref06_Radar} {l : List ref06_Job} (h : OkR r l) {s : List Int} (hs : okS l.length s) (h1 : 1 ≤ s.length) (h60 : s.length ≤ 60) {j : Int} (hj : 0 ≤ j ∧ j < l.length) : ref06_Late F r l s j = some (lateD (rr r) (ej l) s j) := by
  rw [ref06_Late, getb default (by omega), begins_eq (by omega) h hs h60 (h.get (by omega)), Option.bind_some, ckb (by omega), getD_map_rj (by omega) default, endD_start]
  exact rLate_loop (by omega) h hs h1 h60 hj s.length F (Nat.le_refl _) (by omega) (fun k k1 k2 => by omega)
theorem rlate_loop {F : Nat} (hF : 130 ≤ F) {r : ref06_Radar} {l : List ref06_Job} (h : OkR r l) {s : List Int} (hs : okS l.length s) (h1 : 1 ≤ s.length) (h60 : s.length ≤ 60) :
    ∀ n k : Nat, k ≤ l.length → l.length < n + k → ref06_late_L2 F r l s n (k : Int) = some (match ((List.range l.length).drop k).find? (fun j : Nat => lateD (rr r) (ej l) s j) with | some j => (j : Int) | none => -1) := by
  have h6 := h.h6
  intro n
  induction n with
  | zero => intro k h1 h2; omega
  | succ n ih =>
    intro k hk0 hk
    simp only [ref06_late_L2, ref06_late_B2, ref06_late_K1]
    by_cases hc : k < l.length
    · rw [bifT (by simp; omega), ref_Late_eq hF h hs h1 h60 (by omega), Option.bind_some, range_drop hc, List.find?_cons]
      cases hb : lateD (rr r) (ej l) s k with
      | true => rfl
      | false =>
        rw [cond_false, ckb (by omega), show (k : Int) + 1 = ((k + 1 : Nat) : Int) by omega]
        exact ih (k + 1) (by omega) (by omega)
    · rw [bifF (by simp; omega), List.drop_of_length_le (by simp; omega)]; rfl
def lateI (o : Option Nat) : Int := match o with
  | some j => (j : Int)
  | none => -1
theorem ref_late_eq {F : Nat} (hF : 130 ≤ F) {r : ref06_Radar} {l : List ref06_Job} (h : OkR r l) {s : List Int} (hs : okS l.length s) (h1 : 1 ≤ s.length) (h60 : s.length ≤ 60) : ref06_late F r l s = some (lateI (firstLate (rr r) (ej l) s)) := by
  have h6 := h.h6
  have := rlate_loop hF h hs h1 h60 F 0 (by omega) (by omega)
  rw [List.drop_zero] at this
  unfold firstLate
  rw [ejl]
  exact this
theorem starts_loop {a b : List Int} (hl : b.length ≤ a.length) (h : b.length ≤ 1000) : ∀ n k : Nat, k ≤ b.length → b.length < n + k → ref06_Starts_L2 a b n (k : Int) = some (decide ((a.take b.length).drop k = b.drop k)) := by
  intro n
  induction n with
  | zero => intro k h1 h2; omega
  | succ n ih =>
    intro k hk0 hk
    simp only [ref06_Starts_L2, ref06_Starts_B2, ref06_Starts_K1]
    by_cases hc : k < b.length
    · have hd : ∀ a : List Int, k < a.length → a.drop k = a.getD k 0 :: a.drop (k + 1) := fun a hc => by
        rw [List.drop_eq_getElem_cons hc, List.getD_eq_getElem?_getD, List.getElem?_eq_getElem hc]; rfl
      have ht : (a.take b.length).getD k 0 = a.getD k 0 := by simp [List.getD_eq_getElem?_getD, List.getElem?_take, hc]
      rw [bifT (by simp; omega), getb 0 (by omega), Int.toNat_natCast, getb 0 (by omega), Int.toNat_natCast, hd (a.take b.length) (by simp; omega), hd b hc, ht]
      by_cases he : a.getD k 0 = b.getD k 0
      · have hb : (a.getD k 0 != b.getD k 0) = false := by rw [he]; simp
        rw [bifF hb, ckb (by omega), show (k : Int) + 1 = ((k + 1 : Nat) : Int) by omega, ih (k + 1) (by omega) (by omega), he]
        congr 1
        simp
      · have hb : (a.getD k 0 != b.getD k 0) = true := by simpa using he
        rw [bifT hb]
        congr 1
        symm
        exact decide_eq_false (fun h => he (List.cons.inj h).1)
    · rw [bifF (by simp; omega), List.drop_of_length_le (by simp; omega), List.drop_of_length_le (by omega)]; rfl
theorem starts_eq {F : Nat} {a b : List Int} (h : b.length ≤ 1000) (hF : 1100 ≤ F) : ref06_Starts F a b = some (decide (a.take b.length = b ∧ b.length ≤ a.length)) := by
  rw [ref06_Starts]
  by_cases hl : b.length ≤ a.length
  · rw [bifF (by simp; omega)]
    have := starts_loop hl h F 0 (by omega) (by omega)
    rw [List.drop_zero, List.drop_zero] at this
    refine Eq.trans this ?_
    congr 1
    simp [hl]
  · rw [bifT (by simp; omega)]
    congr 1
    symm
    exact decide_eq_false (fun e => hl e.2)
end Go.Proofs.Ytejffembnkojjaa
