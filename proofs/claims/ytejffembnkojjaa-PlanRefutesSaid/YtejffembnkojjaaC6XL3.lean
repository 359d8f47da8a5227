/- Chapter 6, plain laws, part 3: judging, on the plain programs of both sides. -/
import Derived.Test.YtejffembnkojjaaC6XL2
namespace Go.Proofs.Ytejffembnkojjaa
open Go Go.Eng Go.Plan
set_option linter.unusedVariables false
set_option linter.unusedSimpArgs false
set_option maxRecDepth 10000
/-! ### The program's judging -/
theorem every_get {l : List plan_Job} {q : Nat} (h : q < l.length) : (l.getD q default).Every = ((dj l).getD q default).every := by
  rw [← getD_map_pj h default]; rfl
/-! ### The document's -/
abbrev ej (l : List ref06_Job) : List JobD := l.map rj
structure OkR (r : ref06_Radar) (l : List ref06_Job) : Prop where
  hr : radarOk (rr r) = true
  hl : ∀ j ∈ l, jobErr (rj j) = 0
  h1 : 1 ≤ l.length
  h6 : l.length ≤ 7
theorem OkR.get {r : ref06_Radar} {l : List ref06_Job} (h : OkR r l) {k : Nat} (hk : k < l.length) : jobErr (rj (l.getD k default)) = 0 := by
  rw [List.getD_eq_getElem?_getD, List.getElem?_eq_getElem hk]; exact h.hl _ (List.getElem_mem hk)
theorem OkR.okJ {r : ref06_Radar} {l : List ref06_Job} (h : OkR r l) : okJ (ej l) := by
  intro i hi
  rw [List.length_map] at hi
  rw [← getD_map_rj hi default]; exact h.get hi
theorem OkR.of {r : ref06_Radar} {l : List ref06_Job} (h : checkE (rr r) (ej l) = 0) : OkR r l := by
  obtain ⟨h1, h2, h3⟩ := checkE_ok h
  rw [List.length_map] at h2
  exact ⟨h1, fun j hj => firstErr_all h3 _ (List.mem_map_of_mem hj), h2.1, by omega⟩
theorem ejl (l : List ref06_Job) : (ej l).length = l.length := by simp
theorem tk_ref {r : ref06_Radar} {l : List ref06_Job} {j : Int} (hj : 0 ≤ j ∧ j < l.length) : timeJ (rr r) (rj (l.getD j.toNat default)) = tk (rr r) (ej l) j := by
  simp only [tk]; rw [← getD_map_rj (by omega) default]
theorem mv_ref {r : ref06_Radar} {l : List ref06_Job} {i j : Int} (hi : 0 ≤ i ∧ i < l.length) (hj : 0 ≤ j ∧ j < l.length) : moveJ (rr r) (rj (l.getD i.toNat default)) (rj (l.getD j.toNat default)) = mv (rr r) (ej l) i j := by
  simp only [mv]; rw [← getD_map_rj (by omega) default, ← getD_map_rj (by omega) default]
/-- When the beam has moved to a job behind a sequence. -/
def endD (r : RadarD) (l : List JobD) (s : List Int) (nx : JobD) : Int := if s.length = 0 then 0 else doneD r l s + moveJ r (l.getD (s.getD (s.length - 1) 0).toNat default) nx
def nowAt (r : RadarD) (l : List JobD) (s : List Int) (nx : JobD) (k : Nat) : Int := if k < s.length then startD r l (s.take k) (s.getD k 0) else endD r l s nx
theorem begins_loop {F : Nat} (hF : 100 ≤ F) {r : ref06_Radar} {l : List ref06_Job} (h : OkR r l) {s : List Int} (hs : okS l.length s) (h60 : s.length ≤ 60) {nx : ref06_Job} (hn : jobErr (rj nx) = 0) : ∀ n k : Nat, k ≤ s.length → s.length < n + k →
    ref06_begins_L2 F r l s nx n (atD (rr r) (ej l) (s.take k)) (nowAt (rr r) (ej l) s (rj nx) k) (k : Int) = some (atD (rr r) (ej l) s, endD (rr r) (ej l) s (rj nx)) := by
  have hs' : okS (ej l).length s := by simpa using hs
  intro n
  induction n with
  | zero => intro k h1 h2; omega
  | succ n ih =>
    intro k hk0 hk
    simp only [ref06_begins_L2, ref06_begins_B2, ref06_begins_K1, ref06_begins_K3]
    by_cases hc : k < s.length
    · have hx := hs k hc
      have hst := startD_bd h.hr h.okJ (s := s.take k) (j := s.getD k 0) (okS_take hs') (by simpa using hx)
      have htl : (s.take k).length = k := by simp; omega
      have hal := atD_len (rr r) (ej l) (s.take k)
      have htk := tk_bd h.hr h.okJ (j := s.getD k 0) (by simpa using hx)
      have hnow : nowAt (rr r) (ej l) s (rj nx) k = startD (rr r) (ej l) (s.take k) (s.getD k 0) := by unfold nowAt; rw [if_pos hc]
      have hat : atD (rr r) (ej l) (s.take k) ++ [startD (rr r) (ej l) (s.take k) (s.getD k 0)] = atD (rr r) (ej l) (s.take (k + 1)) := by rw [← take_snoc (d := 0) hc, atD_snoc]
      have hdn : startD (rr r) (ej l) (s.take k) (s.getD k 0) + tk (rr r) (ej l) (s.getD k 0) = doneD (rr r) (ej l) (s.take (k + 1)) := by rw [← take_snoc (d := 0) hc, doneD_snoc]
      have htl1 : (s.take (k + 1)).length = k + 1 := by simp; omega
      have hlast : (s.take (k + 1)).getD k 0 = s.getD k 0 := by
        rw [← take_snoc (d := 0) hc]
        have := getD_snoc_eq (s := s.take k) (j := s.getD k 0)
        rwa [htl] at this
      rw [hnow, bifT (by simp; omega), apdb (by simp; omega), getb 0 (by omega), Int.toNat_natCast, getb default (by omega), ref06_time_eq hF h.hr (h.get (by omega)), Option.bind_some, tk_ref hx, ckb (by omega), ckb (by omega)]
      by_cases hc2 : k + 1 < s.length
      · have hx2 := hs (k + 1) hc2
        have hm := mv_bd h.hr h.okJ (i := s.getD k 0) (j := s.getD (k + 1) 0) (by simpa using hx) (by simpa using hx2)
        rw [bifT (by simp; omega), getb 0 (by omega), Int.toNat_natCast, getb default (by omega), ckb (by omega), show (k : Int) + 1 = ((k + 1 : Nat) : Int) by omega, getb 0 (by omega), Int.toNat_natCast, getb default (by omega), ref_move_eq h.hr (h.get (by omega)) (h.get (by omega)), Option.bind_some, mv_ref hx hx2, ckb (by omega), ckb (by omega), hat, hdn]
        have := ih (k + 1) (by omega) (by omega)
        rw [show nowAt (rr r) (ej l) s (rj nx) (k + 1) = doneD (rr r) (ej l) (s.take (k + 1)) + mv (rr r) (ej l) (s.getD k 0) (s.getD (k + 1) 0) by
          unfold nowAt; rw [if_pos hc2]; unfold startD; rw [if_neg (by omega), htl1, Nat.add_sub_cancel, hlast]] at this
        exact this
      · have hlen : s.length = k + 1 := by omega
        have hm := moveJ_bd h.hr (h.get (k := (s.getD k 0).toNat) (by omega)) hn
        rw [bifF (by simp; omega), getb 0 (by omega), Int.toNat_natCast, getb default (by omega), ref_move_eq h.hr (h.get (by omega)) hn, Option.bind_some, ckb (by omega), ckb (by omega), show (k : Int) + 1 = ((k + 1 : Nat) : Int) by omega, hat, hdn]
        have := ih (k + 1) (by omega) (by omega)
        rw [show nowAt (rr r) (ej l) s (rj nx) (k + 1) = doneD (rr r) (ej l) (s.take (k + 1)) + moveJ (rr r) (rj (l.getD (s.getD k 0).toNat default)) (rj nx) by
          unfold nowAt; rw [if_neg (by omega)]; unfold endD; rw [if_neg (by omega), hlen, Nat.add_sub_cancel, ← getD_map_rj (by omega) default, List.take_of_length_le (by omega)]] at this
        exact this
    · have hk' : k = s.length := by omega
      subst hk'
      rw [bifF (by simp)]
      unfold nowAt
      rw [if_neg (by omega), List.take_length]
theorem begins_eq {F : Nat} (hF : 100 ≤ F) {r : ref06_Radar} {l : List ref06_Job} (h : OkR r l) {s : List Int} (hs : okS l.length s) (h60 : s.length ≤ 60) {nx : ref06_Job} (hn : jobErr (rj nx) = 0) : ref06_begins F r l s nx = some (atD (rr r) (ej l) s, endD (rr r) (ej l) s (rj nx)) := by
  have := begins_loop hF h hs h60 hn F 0 (by omega) (by omega)
  have e : nowAt (rr r) (ej l) s (rj nx) 0 = 0 := by
    unfold nowAt startD endD
    split
    · simp
    · rw [if_pos (by omega)]
  rw [e] at this
  exact this
theorem endD_start (r : RadarD) (l : List JobD) (s : List Int) (j : Int) : endD r l s (l.getD j.toNat default) = startD r l s j := rfl
end Go.Proofs.Ytejffembnkojjaa
