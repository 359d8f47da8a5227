/- Chapter 6, plain laws, part 15: where one more sweep can be done, on the plain program. -/
import Derived.Test.YtejffembnkojjaaC12XL14
namespace Go.Proofs.Ytejffembnkojjaa
open Go Go.Eng Go.Plan
set_option linter.unusedVariables false
set_option linter.unusedSimpArgs false
set_option maxRecDepth 10000
theorem gdT {α : Type} {g : Bool} {o : Option α} {d : α} (h : g = true) : gd g o d = o := by subst h; rfl
theorem gdF {α : Type} {g : Bool} {o : Option α} {d : α} (h : g = false) : gd g o d = some d := by subst h; rfl
def insOk (r : RadarD) (l : List JobD) (e : JobD) (s : List Int) (t : Int) (i : Nat) : Bool := decide (beginD' r l e s i ≤ t) && bearsB r l e s (s.length + i + 1)
def insFind (r : RadarD) (l : List JobD) (e : JobD) (s : List Int) (t : Int) : Int × Int :=
  match (List.range s.length).find? (insOk r l e s t) with
  | some i => ((i : Int), 0)
  | none => (0, 28)
def anyNeg (a : List Int) : Bool := a.any fun x => decide (x < 0)
def insertR (r : RadarD) (l : List JobD) (s : List Int) (e : JobD) (t : Int) : Int × Int :=
  if judgeE r l s = 0 then (if checkE r [e] = 0 then (if anyNeg (judgeL r l s) then (0, 6) else if inB t 0 4294967296 then insFind r l e s t else (0, 3)) else (0, checkE r [e])) else (0, judgeE r l s)
/-- A round that is kept. -/
structure Kept (r : plan_Radar) (l : List plan_Job) (s : List Int) : Prop where
  ok : OkL r l
  sok : okS l.length s
  h1 : 1 ≤ s.length
  h12 : s.length ≤ 12
  inn : ∀ j : Nat, j < l.length → (j : Int) ∈ s
  gap : ∀ j : Nat, j < l.length → gapD (pr r) (dj l) s j ≤ ((dj l).getD j default).every
theorem kept_of {r : plan_Radar} {l : List plan_Job} {s : List Int} (hj : judgeE (pr r) (dj l) s = 0) (hn : anyNeg (judgeL (pr r) (dj l) s) = false) : Kept r l s := by
  have hc : checkE (pr r) (dj l) = 0 ∧ (1 ≤ s.length ∧ s.length ≤ 12) ∧ okS (dj l).length s ∧ (gapsD (pr r) (dj l) s (dj l).length).contains 0 = false := by
    unfold judgeE at hj
    by_cases h1 : checkE (pr r) (dj l) = 0
    · rw [if_pos h1] at hj
      by_cases h2 : inB s.length 1 12 = true
      · rw [if_pos h2] at hj
        by_cases h3 : inS (dj l).length s = true
        · rw [if_pos h3] at hj
          by_cases h4 : (gapsD (pr r) (dj l) s (dj l).length).contains 0 = true
          · rw [if_pos h4] at hj; omega
          · have := inB_iff.1 h2
            exact ⟨h1, by omega, inS_iff.1 h3, by simpa using h4⟩
        · rw [if_neg h3] at hj; omega
      · rw [if_neg h2] at hj; omega
    · rw [if_neg h1] at hj; exact absurd hj h1
  obtain ⟨c1, c2, c3, c4⟩ := hc
  have hL := OkL.of c1
  have hJ : judgeL (pr r) (dj l) s = slackD (pr r) (dj l) s := by unfold judgeL; rw [if_pos hj]
  rw [hJ] at hn
  refine ⟨hL, by simpa using c3, c2.1, c2.2, fun j hj2 => ?_, fun j hj2 => ?_⟩
  · rw [contains_gaps hL.hr hL.okJ c3] at c4
    have := of_decide_eq_false c4
    exact Decidable.byContradiction fun h => this ⟨j, by rw [djl]; exact hj2, h⟩
  · have hg := slackD_get' (r := pr r) c3 (j := j) (by rw [djl]; exact hj2)
    have hm : (slackD (pr r) (dj l) s).getD j 0 ∈ slackD (pr r) (dj l) s := by
      rw [List.getD_eq_getElem?_getD, List.getElem?_eq_getElem (by rw [slackD_len', djl]; exact hj2)]; exact List.getElem_mem _
    unfold anyNeg at hn
    rw [List.any_eq_false] at hn
    have := hn _ hm
    simp only [decide_eq_true_eq] at this
    omega
theorem rp_i {s : List Int} (h1 : 1 ≤ s.length) {i : Nat} (hi : i < s.length) : (rp s 4).getD (s.length + i) 0 = s.getD i 0 ∧ (rp s 4).getD (s.length + i + 1) 0 = s.getD ((i + 1) % s.length) 0 := by
  refine ⟨?_, ?_⟩
  · rw [rp_get h1 4 _ (by omega), Nat.add_mod_left, Nat.mod_eq_of_lt hi]
  · rw [rp_get h1 4 _ (by omega), Nat.add_assoc, Nat.add_mod_left]
theorem Insert_loop {F : Nat} (hF : 100 ≤ F) {r : plan_Radar} {l : List plan_Job} {s : List Int} (hK : Kept r l s) {e : plan_Job} (he : jobErr (pj e) = 0) {t : Int} (y : List Int × Int) :
    ∀ n i : Nat, i ≤ s.length → s.length < n + i → plan_Insert_L2 F r l s e t (lineP r l s, y) n (i : Int) = some (match ((List.range s.length).drop i).find? (insOk (pr r) (dj l) (pj e) s t) with | some i => ((i : Int), 0) | none => (0, 28)) := by
  have h := hK.ok
  have hs := hK.sok
  have h1 := hK.h1
  have h12 := hK.h12
  have h6 := h.h6
  have hs' : okS (dj l).length s := by simpa using hs
  have hal := atD_len (pr r) (dj l) s
  intro n
  induction n with
  | zero => intro i h1 h2; omega
  | succ n ih =>
    intro i hi0 hi
    simp only [plan_Insert_L2, plan_Insert_B2, plan_Insert_K1]
    by_cases hc : i < s.length
    · have hx := hs i hc
      have hmod := Nat.mod_lt (i + 1) (show 0 < s.length by omega)
      have hy := hs ((i + 1) % s.length) hmod
      have hat := atD_bd h.hr h.okJ s hs' i
      have htk := tk_bd h.hr h.okJ (j := s.getD i 0) (by simpa using hx)
      have hm := mv_bd h.hr h.okJ (i := s.getD i 0) (j := s.getD ((i + 1) % s.length) 0) (by simpa using hx) (by simpa using hy)
      have hja := h.get (k := (s.getD i 0).toNat) (by omega)
      have hjb := h.get (k := (s.getD ((i + 1) % s.length) 0).toNat) (by omega)
      have m1 := moveJ_bd h.hr hja he
      have m2 := moveJ_bd h.hr he hjb
      have te := timeJ_bd h.hr he
      have hr4 := rp_i h1 hc
      have ea : (dj l).getD (s.getD i 0).toNat default = pj (l.getD (s.getD i 0).toNat default) := (getD_map_pj (by omega) default).symm
      have eb : (dj l).getD (s.getD ((i + 1) % s.length) 0).toNat default = pj (l.getD (s.getD ((i + 1) % s.length) 0).toNat default) := (getD_map_pj (by omega) default).symm
      have hbeg : (atD (pr r) (dj l) s).getD i 0 + tk (pr r) (dj l) (s.getD i 0) + moveJ (pr r) (pj (l.getD (s.getD i 0).toNat default)) (pj e) = beginD' (pr r) (dj l) (pj e) s i := by unfold beginD'; rw [ea]
      have hdel : moveJ (pr r) (pj (l.getD (s.getD i 0).toNat default)) (pj e) + timeJ (pr r) (pj e) + moveJ (pr r) (pj e) (pj (l.getD (s.getD ((i + 1) % s.length) 0).toNat default)) - mv (pr r) (dj l) (s.getD i 0) (s.getD ((i + 1) % s.length) 0) = delayD (pr r) (dj l) (pj e) (s.getD i 0) (s.getD ((i + 1) % s.length) 0) := by unfold delayD; rw [ea, eb]
      have hbears := bears_loop hF h hs h1 h12 (e := pj e) hc (D := delayD (pr r) (dj l) (pj e) (s.getD i 0) (s.getD ((i + 1) % s.length) 0)) (by rw [← hdel]; omega) (by rw [hr4.1, hr4.2]) hK.inn hK.gap F 0 (by omega) (by omega)
      rw [List.drop_zero] at hbears
      have hbears2 : plan_line_bears F (lineP r l s) (i : Int) (delayD (pr r) (dj l) (pj e) (s.getD i 0) (s.getD ((i + 1) % s.length) 0)) = some (bearsB (pr r) (dj l) (pj e) s (s.length + i + 1)) := by
        rw [plan_line_bears]
        show ((some (deskP r l)).bind fun d510 => _) = _
        rw [Option.bind_some]
        refine Eq.trans hbears ?_
        unfold bearsB
        rw [djl]
      rw [bifT (by simp; omega), getb 0 (by omega), Int.toNat_natCast, ckb (by omega), remN (a := i + 1) (by omega) (by omega), Option.bind_some, getb 0 (by omega), Int.toNat_natCast]
      simp only [show (lineP r l s).at_ = atD (pr r) (dj l) s from rfl, show (lineP r l s).desk = some (deskP r l) from rfl]
      rw [getb 0 (by omega), Int.toNat_natCast, Option.bind_some, getb 0 (by simpa [deskP] using hx), takes_get hx, ckb (by omega), getb default (by omega), plan_move_eq h.hr hja he, Option.bind_some, ckb (by omega), getb default (by omega), plan_move_eq h.hr hja he, Option.bind_some, plan_time_eq h.hr he, Option.bind_some, ckb (by omega), getb default (by omega), plan_move_eq h.hr he hjb, Option.bind_some, ckb (by omega)]
      rw [getb [] (by simpa [deskP] using hx), getb 0 (by simp only [deskP]; rw [map_getD' (d := default) _ (by omega)]; simpa using hy), moves_get hx hy, ckb (by omega), hbeg, hdel]
      rw [show plan_line.mk (some (deskP r l)) (lineP r l s).jobs (atD (pr r) (dj l) s) (lineP r l s).done = lineP r l s from rfl, hbears2]
      rw [show (List.range s.length).drop i = i :: (List.range s.length).drop (i + 1) by rw [List.drop_eq_getElem_cons (by simpa using hc)]; simp, List.find?_cons]
      have hnext := ih (i + 1) (by omega) (by omega)
      rw [show ((i + 1 : Nat) : Int) = (i : Int) + 1 by omega] at hnext
      by_cases hb : beginD' (pr r) (dj l) (pj e) s i ≤ t
      · rw [decide_eq_true hb, gdT (g := ((true == true) && true)) rfl, Option.bind_some]
        cases hbb : bearsB (pr r) (dj l) (pj e) s (s.length + i + 1) with
        | true =>
          have hok : insOk (pr r) (dj l) (pj e) s t i = true := by unfold insOk; rw [decide_eq_true hb, hbb]; rfl
          rw [hok, cond_true, cond_true]
        | false =>
          have hok : insOk (pr r) (dj l) (pj e) s t i = false := by unfold insOk; rw [hbb, Bool.and_false]
          rw [hok, cond_true, cond_false, ckb (by omega)]
          exact hnext
      · have hok : insOk (pr r) (dj l) (pj e) s t i = false := by unfold insOk; rw [decide_eq_false hb, Bool.false_and]
        rw [decide_eq_false hb, gdF (g := ((false == true) && true)) rfl, Option.bind_some, hok, cond_false, cond_false, ckb (by omega)]
        exact hnext
    · rw [bifF (by simp; omega), List.drop_of_length_le (by simp; omega)]; rfl
theorem Insert_eq {F : Nat} (hF : 1200 ≤ F) (r : plan_Radar) (l : List plan_Job) (s : List Int) (e : plan_Job) (t : Int) : plan_Insert F r l s e t = some (insertR (pr r) (dj l) s (pj e) t) := by
  rw [plan_Insert, judged_eq (by omega), Option.bind_some]
  unfold insertR judgedR
  by_cases hj : judgeE (pr r) (dj l) s = 0
  · simp only [if_pos hj]
    rw [bifF (by rfl), plan_Check_eq (by omega), Option.bind_some, pin]
    simp only [List.map_cons, List.map_nil]
    by_cases hc : checkE (pr r) [pj e] = 0
    · rw [bifF (by rw [hc]; rfl), if_pos hc]
      have hJ : judgeL (pr r) (dj l) s = slackD (pr r) (dj l) s := by unfold judgeL; rw [if_pos hj]
      have hl := slackD_len' (pr r) (dj l) s
      have hcl : 1 ≤ (dj l).length ∧ (dj l).length ≤ 6 := by
        have : checkE (pr r) (dj l) = 0 := by
          apply Decidable.byContradiction
          intro h
          unfold judgeE at hj
          rw [if_neg h] at hj
          exact h hj
        exact (checkE_ok this).2.1
      obtain ⟨x, hx1, hx2⟩ := min_eq (F := F) (a := slackD (pr r) (dj l) s) (by omega) (by omega) (by omega)
      rw [hx1, Option.bind_some]
      have hneg : anyNeg (judgeL (pr r) (dj l) s) = decide (x < 0) := by
        rw [hJ]
        unfold anyNeg
        by_cases hx : x < 0
        · rw [decide_eq_true hx, List.any_eq_true]
          obtain ⟨y, hy, hy2⟩ := hx2.1 hx
          exact ⟨y, hy, decide_eq_true hy2⟩
        · rw [decide_eq_false hx, List.any_eq_false]
          intro y hy h2
          exact hx (hx2.2 ⟨y, hy, of_decide_eq_true h2⟩)
      rw [hneg]
      by_cases hx : x < 0
      · rw [bifT (decide_eq_true hx), if_pos (decide_eq_true hx)]
      · rw [bifF (decide_eq_false hx), if_neg (by rw [decide_eq_false hx]; simp)]
        by_cases ht : inB t 0 4294967296 = true
        · rw [bifF (by rw [ht]; rfl), if_pos ht]
          have hK := kept_of hj (by rw [hneg]; exact decide_eq_false hx)
          have := Insert_loop (F := F) (by omega) hK (checkE_one hc).2 (t := t) (slackD (pr r) (dj l) s, 0) F 0 (by omega) (by have := hK.h12; omega)
          rw [List.drop_zero] at this
          unfold insFind
          exact this
        · rw [bifT (by simp [ht]), if_neg ht]
    · rw [bifT (by simpa using hc), if_neg hc]
  · simp only [if_neg hj]
    rw [bifT (by simpa using hj)]
end Go.Proofs.Ytejffembnkojjaa
