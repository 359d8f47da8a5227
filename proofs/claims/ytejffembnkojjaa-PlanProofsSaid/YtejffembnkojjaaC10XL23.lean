/- Chapter 6, plain laws, part 23: the law PlanProofs. -/
import Derived.Test.YtejffembnkojjaaC10XL19
namespace Go.Proofs.Ytejffembnkojjaa
open Go Go.Eng Go.Plan
set_option linter.unusedVariables false
set_option linter.unusedSimpArgs false
set_option maxRecDepth 10000
/-! ### Sums -/
def wsum (N : Nat) (cs : List CutD) : Nat := (cs.map fun c => N ^ (16 - c.1.length)).sum
theorem wsum_app (N : Nat) (a b : List CutD) : wsum N (a ++ b) = wsum N a + wsum N b := by simp [wsum]
theorem wsum_cons (N : Nat) (c : CutD) (b : List CutD) : wsum N (c :: b) = N ^ (16 - c.1.length) + wsum N b := by simp [wsum]
theorem cov_sum {N : Nat} {V : List Int → Int → Bool} {cs : List CutD} (h : cov N V 16 [] cs = some []) : wsum N cs = N ^ 16 := by
  obtain ⟨u, e, hu⟩ := cov_used 16 [] cs [] h
  rw [List.append_nil] at e
  subst e
  have := hu.w
  simpa [wsum] using this
theorem split_at {α : Type} {cs : List α} {k : Nat} (h : k < cs.length) : cs = cs.take k ++ cs[k] :: cs.drop (k + 1) := by
  rw [← List.drop_eq_getElem_cons h, List.take_append_drop]
theorem wsum_split {N : Nat} {cs : List CutD} {k : Nat} (h : k < cs.length) : wsum N cs = wsum N (cs.take k) + (N ^ (16 - (cs[k]).1.length) + wsum N (cs.drop (k + 1))) := by
  conv => lhs; rw [split_at h]
  rw [wsum_app, wsum_cons]
theorem less_no {N : Nat} (hN : 1 ≤ N) {V : List Int → Int → Bool} {cs : List CutD} (h : cov N V 16 [] cs = some []) {k : Nat} (hk : k < cs.length) : cov N V 16 [] (cs.take k ++ cs.drop (k + 1)) ≠ some [] := by
  intro h2
  have a := cov_sum h
  have b := cov_sum h2
  rw [wsum_split hk] at a
  rw [wsum_app] at b
  have c : 1 ≤ N ^ (16 - (cs[k]).1.length) := Nat.pow_pos hN
  omega
theorem twice_no {N : Nat} (hN : 1 ≤ N) {V : List Int → Int → Bool} {cs : List CutD} (h : cov N V 16 [] cs = some []) {k : Nat} (hk : k < cs.length) : cov N V 16 [] (cs.take (k + 1) ++ cs.drop k) ≠ some [] := by
  intro h2
  have a := cov_sum h
  have b := cov_sum h2
  rw [wsum_split hk] at a
  rw [wsum_app, List.take_succ_eq_append_getElem hk, wsum_app, List.drop_eq_getElem_cons hk, wsum_cons, wsum_cons] at b
  have c : 1 ≤ N ^ (16 - (cs[k]).1.length) := Nat.pow_pos hN
  omega
theorem longer_no {N : Nat} (hN : 2 ≤ N) {V : List Int → Int → Bool} {cs : List CutD} (h : cov N V 16 [] cs = some []) {k : Nat} (hk : k < cs.length) (hl : (cs[k]).1.length ≤ 15) {c' : CutD} (hc : c'.1.length = (cs[k]).1.length + 1) : cov N V 16 [] (cs.set k c') ≠ some [] := by
  intro h2
  have a := cov_sum h
  have b := cov_sum h2
  rw [wsum_split hk] at a
  rw [List.set_eq_take_append_cons_drop, if_pos hk, wsum_app, wsum_cons, hc] at b
  have c : 1 ≤ N ^ (16 - ((cs[k]).1.length + 1)) := Nat.pow_pos (by omega)
  have d : N ^ (16 - (cs[k]).1.length) = N ^ (16 - ((cs[k]).1.length + 1)) * N := by
    rw [show 16 - (cs[k]).1.length = (16 - ((cs[k]).1.length + 1)) + 1 by omega, Nat.pow_succ]
  have e : N ^ (16 - ((cs[k]).1.length + 1)) * 2 ≤ N ^ (16 - ((cs[k]).1.length + 1)) * N := Nat.mul_le_mul_left _ hN
  omega
/-! ### Less time -/
structure Same (l l' : List JobD) : Prop where
  t : ∀ i, (l'.getD i default).tilt = (l.getD i default).tilt
  n : ∀ i, (l'.getD i default).train = (l.getD i default).train
  w : ∀ i, (l'.getD i default).width = (l.getD i default).width
  e : ∀ i, (l'.getD i default).every ≤ (l.getD i default).every
theorem Same.tk {l l' : List JobD} (h : Same l l') (r : RadarD) (j : Int) : Go.Plan.tk r l' j = Go.Plan.tk r l j := by
  unfold Go.Plan.tk timeJ
  rw [h.n, h.w]
theorem Same.mv {l l' : List JobD} (h : Same l l') (r : RadarD) (a b : Int) : Go.Plan.mv r l' a b = Go.Plan.mv r l a b := by
  unfold Go.Plan.mv moveJ
  rw [h.t, h.t]
theorem Same.line {l l' : List JobD} (h : Same l l') (r : RadarD) : ∀ s, lineD r l' s = lineD r l s := by
  refine snoc_ind rfl ?_
  intro s x ih
  rw [lineD_snoc, lineD_snoc, ih]
  unfold addD beginD
  rw [h.tk, h.mv]
theorem Same.late {l l' : List JobD} (h : Same l l') (r : RadarD) (s : List Int) (j : Int) (hl : lateD r l s j = true) : lateD r l' s j = true := by
  have e1 : atD r l' s = atD r l s := by unfold atD; rw [h.line]
  have e2 : startD r l' s j = startD r l s j := by unfold startD doneD; rw [h.line, h.mv]
  have e3 := h.e j.toNat
  unfold lateD at hl ⊢
  rw [e1, e2, h.tk, h.mv]
  cases hocc : occ j s (atD r l s) with
  | nil =>
    rw [hocc] at hl
    exact decide_eq_true (by have := of_decide_eq_true hl; omega)
  | cons x o =>
    rw [hocc] at hl
    exact decide_eq_true (by have := of_decide_eq_true hl; omega)
theorem Same.valid {l l' : List JobD} (h : Same l l') (hlen : l'.length = l.length) (r : RadarD) (s : List Int) (j : Int) (hv : validB r l s j = true) : validB r l' s j = true := by
  unfold validB at hv ⊢
  rw [Bool.and_eq_true] at hv ⊢
  rw [hlen]
  exact ⟨hv.1, h.late r s j hv.2⟩
theorem verifyR_bad {r : RadarD} {l : List JobD} {P : List CutD} (hc : checkE r l = 0) (h5 : P.length ≤ 5000) (hn : cov l.length (validB r l) 16 [] P ≠ some []) : verifyR r l P = 20 := by
  unfold verifyR; rw [if_pos hc, if_neg (by omega), if_neg hn]
theorem verifyR_good {r : RadarD} {l : List JobD} {P : List CutD} (hc : checkE r l = 0) (h5 : P.length ≤ 5000) (hn : cov l.length (validB r l) 16 [] P = some []) : verifyR r l P = 0 := by
  unfold verifyR; rw [if_pos hc, if_neg (by omega), if_pos hn]
theorem verifyR_zero {r : RadarD} {l : List JobD} {P : List CutD} (hc : checkE r l = 0) (h5 : P.length ≤ 5000) (hv : verifyR r l P = 0) : cov l.length (validB r l) 16 [] P = some [] := by
  unfold verifyR at hv
  rw [if_pos hc, if_neg (by omega)] at hv
  split at hv
  · assumption
  · cases hv
theorem Verify_at {F : Nat} (hF : 1400 ≤ F) (r : plan_Radar) (l : List plan_Job) {L : List plan_Cut} {P : List CutD} (h : L = P.map pcut) {e : Int} (he : verifyR (pr r) (dj l) P = e) : plan_Verify F r l L = some e := by
  subst h
  rw [Verify_eq hF, cp_pcut, he]
/-- A job with half its time. -/
def halfJ (j : plan_Job) : plan_Job := ⟨j.Tilt, j.Train, j.Width, 1 + (j.Every - 1) / 2⟩
theorem halfJ_ok {j : plan_Job} (h : jobErr (pj j) = 0) : jobErr (pj (halfJ j)) = 0 ∧ (halfJ j).Every ≤ j.Every := by
  have hb := (jobErr_ok h).2.2.1
  have hb' : 1 ≤ j.Every ∧ j.Every ≤ 100000000 := hb
  refine ⟨?_, by show 1 + (j.Every - 1) / 2 ≤ j.Every; omega⟩
  unfold jobErr at h ⊢
  have e1 : inB (pj j).every 1 100000000 = true := inB_iff.2 hb
  have e2 : inB (pj (halfJ j)).every 1 100000000 = true := inB_iff.2 (by show 1 ≤ 1 + (j.Every - 1) / 2 ∧ 1 + (j.Every - 1) / 2 ≤ 100000000; omega)
  rw [e1] at h
  rw [e2]
  exact h
theorem half_same {l : List plan_Job} {k : Nat} (hk : k < l.length) (h : jobErr (pj (l.getD k default)) = 0) : Same (dj l) (dj (l.set k (halfJ (l.getD k default)))) := by
  have hg : ∀ i, (dj (l.set k (halfJ (l.getD k default)))).getD i default = if i = k then pj (halfJ (l.getD k default)) else (dj l).getD i default := by
    intro i
    by_cases hi : i = k
    · subst hi
      rw [if_pos rfl, List.getD_eq_getElem?_getD, List.getElem?_map, List.getElem?_set_self hk]; rfl
    · rw [if_neg hi, List.getD_eq_getElem?_getD, List.getElem?_map, List.getElem?_set_ne (by omega), ← List.getElem?_map, ← List.getD_eq_getElem?_getD]
  have hgk : (dj l).getD k default = pj (l.getD k default) := by
    rw [List.getD_eq_getElem?_getD, List.getElem?_map, List.getD_eq_getElem?_getD, List.getElem?_eq_getElem hk]; rfl
  have h2 := (halfJ_ok h).2
  refine ⟨fun i => ?_, fun i => ?_, fun i => ?_, fun i => ?_⟩ <;> rw [hg] <;> by_cases hi : i = k
  · subst hi; rw [if_pos rfl, hgk]; rfl
  · rw [if_neg hi]
  · subst hi; rw [if_pos rfl, hgk]; rfl
  · rw [if_neg hi]
  · subst hi; rw [if_pos rfl, hgk]; rfl
  · rw [if_neg hi]
  · subst hi; rw [if_pos rfl, hgk]; exact h2
  · rw [if_neg hi]; exact Int.le_refl _
theorem half_ok {r : plan_Radar} {l : List plan_Job} (h : OkL r l) {k : Nat} (hk : k < l.length) : OkL r (l.set k (halfJ (l.getD k default))) := by
  refine ⟨h.hr, fun j hj => ?_, by rw [List.length_set]; exact h.h1, by rw [List.length_set]; exact h.h6⟩
  rcases List.mem_or_eq_of_mem_set hj with hj | rfl
  · exact h.hl j hj
  · exact (halfJ_ok (h.get hk)).1
theorem PlanProofs_eq {F : Nat} {d : law06_Desk} (hd : OkD d) {most which who : Int} (h1 : okB most) (h2 : okB which) (h3 : okB who) (hF : 1500 ≤ F) (hF2 : d.Jobs.length < F) : law06_PlanProofs F d most which who = some true := by
  unfold okB at h1 h2 h3
  rw [law06_PlanProofs]
  obtain ⟨r, hr, hrok, hduty, hturn, hmove, hrays⟩ := Desk_radar_eq (F := F) hd
  obtain ⟨l, hl, hlN, hl1⟩ := Desk_jobs_eq (F := F) hd hF2
  have hl4 := hlN.n
  have hL := hlN.okL hrok hl1
  have hchk := hL.check (by omega)
  have hwk := works_at' (F := F) (by omega)
  rw [hr, Option.bind_some, hl, Option.bind_some, ckb (by omega), remb (by omega) (by omega), ckb (by omega)]
  obtain ⟨m, hm⟩ : ∃ k : Nat, (1 : Int) + most % 4 = ((k + 1 : Nat) : Int) := ⟨(most % 4).toNat, by omega⟩
  have hm4 : m + 1 ≤ 4 := by omega
  rw [hm]
  have hinB : inB ((m + 1 : Nat) : Int) 1 8 = true := inB_iff.2 (by omega)
  have href : refuteR (pr r) (dj l) ((m + 1 : Nat) : Int) = if anyM (cutL l.length (firstLate (pr r) (dj l)) (m + 1) []) then ([], 4) else if (cutL l.length (firstLate (pr r) (dj l)) (m + 1) []).length > 5000 then ([], 9) else (cutL l.length (firstLate (pr r) (dj l)) (m + 1) [], 0) := by
    unfold refuteR; rw [if_pos hchk, if_pos hinB, Int.toNat_natCast, djl]
  have hcount : (cutL l.length (firstLate (pr r) (dj l)) (m + 1) []).length ≤ 256 := by
    have a := cutL_len hl1 (firstLate (pr r) (dj l)) (m + 1) []
    have b : l.length ^ (m + 1) ≤ 4 ^ (m + 1) := Nat.pow_le_pow_left hl4 _
    have c : 4 ^ (m + 1) ≤ 4 ^ 4 := Nat.pow_le_pow_right (by omega) hm4
    have e : (4 : Nat) ^ 4 = 256 := by decide
    omega
  have hmem := fun c hc => cutL_mem (N := l.length) (FL := firstLate (pr r) (dj l)) (m + 1) [] c hc
  have hne := cutL_ne hl1 (FL := firstLate (pr r) (dj l)) (m + 1) [] (by omega)
  have hver0 : anyM (cutL l.length (firstLate (pr r) (dj l)) (m + 1) []) = false → verifyR (pr r) (dj l) (cutL l.length (firstLate (pr r) (dj l)) (m + 1) []) = 0 := fun hany => by
    have := verify_cutL (r := pr r) (l := dj l) hchk (k := m + 1) (by omega) (by omega) (by rw [djl]; exact hany) (by rw [djl]; omega)
    rw [djl] at this
    exact this
  have hRef := Refute_eq (F := F) (by omega) r l ((m + 1 : Nat) : Int)
  rw [href] at hRef
  generalize cutL l.length (firstLate (pr r) (dj l)) (m + 1) [] = C at hRef hcount hmem hne hver0
  cases hany : anyM C with
  | true =>
    rw [if_pos hany] at hRef
    have hRef' : plan_Refute F r l ((m + 1 : Nat) : Int) = some ([], 4) := hRef
    rw [hRef', Option.bind_some, bifT (by rfl), gdT (by rfl), hwk, Option.bind_some]; rfl
  | false =>
    rw [if_neg (by rw [hany]; simp), if_neg (by omega)] at hRef
    obtain ⟨y, hy1, hy2, hy⟩ : ∃ y : List plan_Cut × Int, y.1 = C.map pcut ∧ y.2 = 0 ∧ plan_Refute F r l ((m + 1 : Nat) : Int) = some y := ⟨_, rfl, rfl, hRef⟩
    have hC1 : 1 ≤ C.length := by
      cases C with
      | nil => exact absurd rfl hne
      | cons _ _ => simp
    have hver := hver0 hany
    have hcov := verifyR_zero hchk (by omega) hver
    rw [djl] at hcov
    have hv0 : plan_Verify F r l (C.map pcut) = some 0 := Verify_at (by omega) r l rfl hver
    have hd1 : decide ((((C.map pcut).length : Nat) : Int) < 1) = false := decide_eq_false (by simp; omega)
    rw [hy, Option.bind_some, hy2, hy1, bifF (by rfl), hd1, gdT (by rfl), hv0, Option.bind_some, bifF (by rfl), ckb (by omega), remb (by omega) (by simp; omega), ckb (by omega), remb (by omega) (by omega)]
    obtain ⟨k, hk, hkC⟩ : ∃ k : Nat, which % (((C.map pcut).length : Nat) : Int) = (k : Int) ∧ k < C.length := by
      have a := Int.emod_nonneg which (b := (((C.map pcut).length : Nat) : Int)) (by simp; omega)
      have b := Int.emod_lt_of_pos which (b := (((C.map pcut).length : Nat) : Int)) (by simp; omega)
      rw [List.length_map] at a b ⊢
      exact ⟨(which % ((C.length : Nat) : Int)).toNat, by omega, by omega⟩
    obtain ⟨j, hj, hjl⟩ : ∃ k : Nat, who % ((l.length : Nat) : Int) = (k : Int) ∧ k < l.length := by
      have a := Int.emod_nonneg who (b := ((l.length : Nat) : Int)) (by omega)
      have b := Int.emod_lt_of_pos who (b := ((l.length : Nat) : Int)) (by omega)
      exact ⟨(who % ((l.length : Nat) : Int)).toNat, by omega, by omega⟩
    rw [hk, hj]
    have c1 : ∀ n : Nat, n ≤ C.length → cutI (C.map pcut) 0 (n : Int) = some ((C.take n).map pcut) := by
      intro n hn
      rw [cutI, if_pos (by simp; omega), List.map_take]; simp
    have c2 : ∀ n : Nat, n ≤ C.length → cutI (C.map pcut) (n : Int) (((C.map pcut).length : Nat) : Int) = some ((C.drop n).map pcut) := by
      intro n hn
      rw [cutI, if_pos (by simp; omega), List.map_drop, List.take_of_length_le (by simp)]; simp
    have g1 : getI (C.map pcut) (k : Int) = some (pcut C[k]) := by
      rw [getI, if_pos (by omega), Int.toNat_natCast, List.getElem?_map, List.getElem?_eq_getElem hkC]; rfl
    obtain ⟨t, ht1, ht2, ht3, _⟩ := hmem C[k] (List.getElem_mem hkC)
    have hck : (C[k]).1.length ≤ 4 := by rw [ht1, List.nil_append]; omega
    have hb1 : (pcut C[k]).Begin = (C[k]).1 := rfl
    have hb2 : (pcut C[k]).Late = (C[k]).2 := rfl
    have hv1 : plan_Verify F r l ((C.take k).map pcut ++ (C.drop (k + 1)).map pcut) = some 20 :=
      Verify_at (P := C.take k ++ C.drop (k + 1)) (by omega) r l (by rw [List.map_append]) (verifyR_bad hchk (by simp; omega) (by rw [djl]; exact less_no hl1 hcov hkC))
    have hv2 : plan_Verify F r l ((C.take (k + 1)).map pcut ++ (C.drop k).map pcut) = some 20 :=
      Verify_at (P := C.take (k + 1) ++ C.drop k) (by omega) r l (by rw [List.map_append]) (verifyR_bad hchk (by simp; omega) (by rw [djl]; exact twice_no hl1 hcov hkC))
    have hv3 : 2 ≤ l.length → plan_Verify F r l ((C.map pcut).set k (plan_Cut.mk ((C[k]).1 ++ [(j : Int)]) (C[k]).2)) = some 20 := fun hl2 =>
      Verify_at (P := C.set k ((C[k]).1 ++ [(j : Int)], (C[k]).2)) (by omega) r l (by rw [List.map_set]; rfl) (verifyR_bad hchk (by simp; omega) (by rw [djl]; exact longer_no hl2 hcov hkC (by omega) (by simp)))
    have hjob := hL.get hjl
    have hev : 1 ≤ (l.getD j default).Every ∧ (l.getD j default).Every ≤ 100000000 := (jobErr_ok hjob).2.2.1
    have hLh := half_ok hL hjl
    have hv4 : plan_Verify F r (l.set j (halfJ (l.getD j default))) (C.map pcut) = some 0 := by
      refine Verify_at (P := C) (by omega) r _ rfl (verifyR_good (hLh.check (by simp; omega)) (by omega) ?_)
      rw [djl, List.length_set]
      exact cov_mono (P := fun _ => True) (fun c _ hv => (half_same hjl hjob).valid (by simp) _ _ _ hv) 16 [] C [] (fun _ _ => trivial) hcov
    rw [c1 k (by omega), Option.bind_some, ckb (by omega), show (k : Int) + 1 = ((k + 1 : Nat) : Int) by omega, c2 (k + 1) (by omega), Option.bind_some, apdb (by simp; omega), List.nil_append, apdb (by simp; omega), ckb (by omega), c1 (k + 1) (by omega), Option.bind_some, c2 k (by omega), Option.bind_some, apdb (by simp; omega), List.nil_append, apdb (by simp; omega), apdb (by simp; omega), List.nil_append, g1, Option.bind_some, hb1, apdb (by simp; omega), List.nil_append, apdb (by simp; omega), Option.bind_some, hb2, setb (by simp; omega), Int.toNat_natCast, hv1, Option.bind_some, gdT (by rfl), hv2, Option.bind_some]
    have hthird : ∃ e : Int, gd (((decide (((l.length : Nat) : Int) > 1)) == true && ((bif ((20 : Int) != 20) then true else ((20 : Int) != 20)) == false && true))) (plan_Verify F r l ((C.map pcut).set k (plan_Cut.mk ((C[k]).1 ++ [(j : Int)]) (C[k]).2))) default = some e ∧ (bif (bif ((20 : Int) != 20) then true else ((20 : Int) != 20)) then true else (bif (decide (((l.length : Nat) : Int) > 1)) then (e != 20) else false)) = false := by
      by_cases hl2 : ((l.length : Nat) : Int) > 1
      · rw [decide_eq_true hl2]
        exact ⟨20, by rw [gdT (by rfl)]; exact hv3 (by omega), rfl⟩
      · rw [decide_eq_false hl2]
        exact ⟨default, by rw [gdF (by rfl)], rfl⟩
    obtain ⟨e, he1, he2⟩ := hthird
    rw [he1, Option.bind_some, bifF he2, apdb (by simp; omega), List.nil_append, getb default (by omega), Int.toNat_natCast, ckb (by omega), quob (by omega) (by omega), ckb (by omega), getb default (by omega), Int.toNat_natCast, setb (by omega), Int.toNat_natCast]
    have hv4' : plan_Verify F r (l.set j (plan_Job.mk (l.getD j default).Tilt (l.getD j default).Train (l.getD j default).Width (1 + ((l.getD j default).Every - 1) / 2))) (C.map pcut) = some 0 := hv4
    rw [hv4', Option.bind_some, gdT (by rfl), hwk, Option.bind_some]; rfl
end Go.Proofs.Ytejffembnkojjaa
