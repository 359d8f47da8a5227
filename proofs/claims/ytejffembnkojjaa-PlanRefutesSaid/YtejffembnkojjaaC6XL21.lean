/- Chapter 6, plain laws, part 21: the document's cuts. -/
import Derived.Test.YtejffembnkojjaaC6XL20
import Derived.Test.YtejffembnkojjaaC6PlanY
namespace Go.Proofs.Ytejffembnkojjaa
open Go Go.Eng Go.Plan
set_option linter.unusedVariables false
set_option linter.unusedSimpArgs false
set_option maxRecDepth 10000
def rcut (c : CutD) : ref06_Cut := ⟨c.1, c.2⟩
def cr (c : ref06_Cut) : CutD := (c.Begin, c.Late)
theorem rcut_last {out : List CutD} (h : out ≠ []) : ((out.map rcut).getD (out.length - 1) default).Begin = lastC out := by
  have hl : 1 ≤ out.length := by cases out with
    | nil => exact absurd rfl h
    | cons _ _ => simp
  unfold lastC
  rw [map_getD' (d := (([], 0) : CutD)) rcut (by omega)]; rfl
/-- The document's search in one sequence. -/
theorem rcut_loop {F : Nat} (hF : 130 ≤ F) {r : ref06_Radar} {l : List ref06_Job} (h : OkR r l) {ss : List (List Int)} {i : Nat} (hi : i < ss.length) (hq : okS l.length (ss.getD i [])) {most : Nat} (hm : most ≤ 8) (hql : (ss.getD i []).length = most) (out : List ref06_Cut) (k2 : Int → List ref06_Cut → Option (List ref06_Cut × Int)) :
    ∀ c n m : Nat, n + c = most → c + 1 < m → ∀ j : Int, j < 0 → ref06_Refute_L5 F r l (most : Int) ss (i : Int) out k2 m (n : Int) j =
      if (cutAt (firstLate (rr r) (ej l)) (ss.getD i []) c n).2 < 0 then some ([], 4) else ref06_Refute_K4 F ss (i : Int) out k2 (((cutAt (firstLate (rr r) (ej l)) (ss.getD i []) c n).1 : Nat) : Int) (cutAt (firstLate (rr r) (ej l)) (ss.getD i []) c n).2 := by
  intro c
  induction c with
  | zero =>
    intro n m hn hm2 j hj
    obtain ⟨m, rfl⟩ : ∃ x, m = x + 1 := ⟨m - 1, by omega⟩
    simp only [ref06_Refute_L5, ref06_Refute_B5]
    have e : (cutAt (firstLate (rr r) (ej l)) (ss.getD i []) 0 n).2 < 0 := by show (-1 : Int) < 0; decide
    rw [decide_eq_false (show ¬ ((n : Int) < (most : Int)) by omega), cond_false, cond_false, if_pos e, ref06_Refute_K4, bifT (decide_eq_true hj)]
  | succ c ih =>
    intro n m hn hm2 j hj
    obtain ⟨m, rfl⟩ : ∃ x, m = x + 1 := ⟨m - 1, by omega⟩
    simp only [ref06_Refute_L5, ref06_Refute_B5]
    have c1 : cutI (ss.getD i []) (0 : Int) ((n + 1 : Nat) : Int) = some ((ss.getD i []).take (n + 1)) := by
      rw [cutI, if_pos (by omega)]; simp
    have hok : okS l.length ((ss.getD i []).take (n + 1)) := okS_take hq
    have hlk : ((ss.getD i []).take (n + 1)).length = n + 1 := by rw [List.length_take]; omega
    rw [decide_eq_true (show (n : Int) < (most : Int) by omega), cond_true, bifT (decide_eq_true hj), ckb (by omega), getb [] (by omega), Int.toNat_natCast, show (n : Int) + 1 = ((n + 1 : Nat) : Int) by omega, c1, Option.bind_some, ref_late_eq hF h hok (by omega) (by omega), Option.bind_some]
    cases hf : firstLate (rr r) (ej l) ((ss.getD i []).take (n + 1)) with
    | some q =>
      have e : cutAt (firstLate (rr r) (ej l)) (ss.getD i []) (c + 1) n = (n + 1, (q : Int)) := by rw [cutAt, hf]
      rw [e]
      obtain ⟨m, rfl⟩ : ∃ x, m = x + 1 := ⟨m - 1, by omega⟩
      simp only [ref06_Refute_L5, ref06_Refute_B5]
      have hq0 : ¬ ((q : Int) < 0) := by omega
      rw [show lateI (some q) = (q : Int) from rfl, decide_eq_false hq0, if_neg hq0]
      cases decide (((n + 1 : Nat) : Int) < (most : Int)) with
      | true => rw [cond_true, cond_false]
      | false => rw [cond_false, cond_false]
    | none =>
      have e : cutAt (firstLate (rr r) (ej l)) (ss.getD i []) (c + 1) n = cutAt (firstLate (rr r) (ej l)) (ss.getD i []) c (n + 1) := by rw [cutAt, hf]
      rw [e]
      exact ih (n + 1) m (by omega) (by omega) (-1) (by decide)
theorem rrefute_loop {F : Nat} (hF : 2000000 ≤ F) {r : ref06_Radar} {l : List ref06_Job} (h : OkR r l) {ss : List (List Int)} (hss : ss.length ≤ 1679616) {most : Nat} (h1 : 1 ≤ most) (hm : most ≤ 8) (hq : ∀ q ∈ ss, okS l.length q ∧ q.length = most) :
    ∀ m i : Nat, i ≤ ss.length → ss.length < m + i → ∀ out : List CutD, out.length ≤ i → (∀ c ∈ out, c.1.length ≤ 8) → ref06_Refute_L2 F r l (most : Int) ss m (i : Int) (out.map rcut) =
      some (match foldR (firstLate (rr r) (ej l)) most out (ss.drop i) with | none => ([], 4) | some o => if o.length > 5000 then ([], 9) else (o.map rcut, 0)) := by
  intro m
  induction m with
  | zero => intro i h1 h2; omega
  | succ m ih =>
    intro i hi0 hi out hout hshort
    simp only [ref06_Refute_L2, ref06_Refute_B2, ref06_Refute_K1]
    by_cases hc : i < ss.length
    · have hmem : ss.getD i [] ∈ ss := by rw [List.getD_eq_getElem?_getD, List.getElem?_eq_getElem hc]; exact List.getElem_mem hc
      obtain ⟨hqok, hql⟩ := hq _ hmem
      have hd : ss.drop i = ss.getD i [] :: ss.drop (i + 1) := by
        rw [List.drop_eq_getElem_cons hc, List.getD_eq_getElem?_getD, List.getElem?_eq_getElem hc]; rfl
      have hlp := rcut_loop (F := F) (by omega) h hc hqok hm hql (out.map rcut) (ref06_Refute_L2 F r l (most : Int) ss m) most 0 F (by omega) (by omega) (-1) (by decide)
      rw [bifT (by simp; omega)]
      refine Eq.trans hlp ?_
      rw [hd, foldR]
      generalize hcc : cutAt (firstLate (rr r) (ej l)) (ss.getD i []) most 0 = cc
      have hcc1 : cc.1 ≤ most := by
        have : ∀ c n, (cutAt (firstLate (rr r) (ej l)) (ss.getD i []) c n).1 ≤ n + c := by
          intro c
          induction c with
          | zero => intro n; simp [cutAt]
          | succ c ihc =>
            intro n
            rw [cutAt]
            cases firstLate (rr r) (ej l) ((ss.getD i []).take (n + 1)) with
            | some j => show n + 1 ≤ n + (c + 1); omega
            | none => have := ihc (n + 1); show (cutAt (firstLate (rr r) (ej l)) (ss.getD i []) c (n + 1)).1 ≤ _; omega
        have := this most 0
        rw [hcc] at this
        omega
      unfold stepR
      rw [hcc]
      simp only [ref06_Refute_K4, ref06_Refute_K3]
      by_cases hneg : cc.2 < 0
      · rw [if_pos hneg, if_pos hneg]; rfl
      · rw [if_neg hneg, bifF (decide_eq_false hneg), if_neg hneg]
        have c1 : cutI (ss.getD i []) (0 : Int) ((cc.1 : Nat) : Int) = some ((ss.getD i []).take cc.1) := by
          rw [cutI, if_pos (by omega)]; simp
        have hnew : ref06_Refute_L2 F r l (most : Int) ss m ((i + 1 : Nat) : Int) ((out ++ [((ss.getD i []).take cc.1, cc.2)]).map rcut) = _ := ih (i + 1) (by omega) (by omega) (out ++ [((ss.getD i []).take cc.1, cc.2)]) (by simp; omega) (fun c hc => by
          rcases List.mem_append.1 hc with hc | hc
          · exact hshort c hc
          · rw [List.mem_singleton] at hc; subst hc; simp; omega)
        have hsame : ref06_Refute_L2 F r l (most : Int) ss m ((i + 1 : Nat) : Int) (out.map rcut) = _ := ih (i + 1) (by omega) (by omega) out (by omega) hshort
        rw [List.map_append, List.map_cons, List.map_nil] at hnew
        by_cases ho : out = []
        · subst ho
          rw [if_pos (Or.inl rfl), Option.bind_some]
          simp only [List.map_nil, List.nil_append] at hnew ⊢
          rw [bifT (by rfl), bifT (by rfl), getb [] (by omega), Int.toNat_natCast, c1, Option.bind_some, apdb (by simp), List.nil_append, ckb (by omega), show (i : Int) + 1 = ((i + 1 : Nat) : Int) by omega]
          exact hnew
        · have hol : 1 ≤ out.length := by cases out with
            | nil => exact absurd rfl ho
            | cons _ _ => simp
          have hoz : ((((out.map rcut).length : Nat) : Int) == 0) = false := by simp; exact ho
          have hlast := rcut_last ho
          have hll : (lastC out).length ≤ 8 := by
            unfold lastC
            refine hshort _ ?_
            rw [List.getD_eq_getElem?_getD, List.getElem?_eq_getElem (by omega)]; exact List.getElem_mem _
          rw [hoz, cond_false, getb [] (by omega), Int.toNat_natCast, ckb (by simp; omega), getb default (by simp; omega), List.length_map, show (((out.length : Nat) : Int) - 1).toNat = out.length - 1 by omega, hlast, starts_eq (by omega) (by omega), Option.bind_some, cond_false]
          by_cases hst : (ss.getD i []).take (lastC out).length = lastC out ∧ (lastC out).length ≤ (ss.getD i []).length
          · rw [decide_eq_true hst, Bool.not_true, cond_false, if_neg (by rintro (h | h); exact ho h; exact h hst), Option.bind_some, ckb (by omega), show (i : Int) + 1 = ((i + 1 : Nat) : Int) by omega]
            exact hsame
          · rw [decide_eq_false hst, Bool.not_false, cond_true, if_pos (Or.inr hst), Option.bind_some, getb [] (by omega), Int.toNat_natCast, c1, Option.bind_some, apdb (by simp; omega), ckb (by omega), show (i : Int) + 1 = ((i + 1 : Nat) : Int) by omega]
            exact hnew
    · rw [bifF (by simp; omega), List.drop_of_length_le (by omega)]
      show _ = some (if out.length > 5000 then ([], 9) else (out.map rcut, 0))
      by_cases h5 : out.length > 5000
      · rw [bifT (by simp; omega), if_pos h5]
      · rw [bifF (by simp; omega), if_neg h5]
theorem ref_Refute_eq {F : Nat} (hF : 2000000 ≤ F) (r : ref06_Radar) (l : List ref06_Job) (most : Int) : ref06_Refute F r l most = some ((refuteR (rr r) (ej l) most).1.map rcut, (refuteR (rr r) (ej l) most).2) := by
  rw [ref06_Refute, ref06_Check_eq (by omega), Option.bind_some, rin]
  unfold refuteR
  by_cases hc : checkE (rr r) (ej l) = 0
  · have h := OkR.of hc
    have hl6 := (checkE_ok hc).2.1
    rw [ejl] at hl6
    rw [bifF (by simp [hc]), if_pos hc]
    by_cases hm : inB most 1 8 = true
    · have hm' := inB_iff.1 hm
      obtain ⟨k, hk⟩ : ∃ k : Nat, most = (k : Int) := ⟨most.toNat, by omega⟩
      subst hk
      have hlen := seqs_len l.length k
      have a1 : l.length ^ k ≤ 6 ^ k := Nat.pow_le_pow_left hl6.2 k
      have a2 : 6 ^ k ≤ 6 ^ 8 := Nat.pow_le_pow_right (by omega) (by omega)
      have e8 : (6 : Nat) ^ 8 = 1679616 := by decide
      rw [e8] at a2
      rw [bifF (by rw [hm]; rfl), if_pos hm, sequences_eq hl6.2 k F (by omega) (by omega), Option.bind_some, Int.toNat_natCast, ejl]
      have := rrefute_loop hF h (ss := seqs l.length k) (by omega) (most := k) (by omega) (by omega) (fun q hq => by
        obtain ⟨b1, b2⟩ := seqs_mem _ _ _ hq
        exact ⟨b2, b1⟩) F 0 (by omega) (by omega) [] (by simp) (by simp)
      rw [List.drop_zero, foldR_all hl6.1 (by omega)] at this
      refine Eq.trans this ?_
      by_cases hex : ∃ c ∈ cutL l.length (firstLate (rr r) (ej l)) k [], c.2 < 0
      · have ha : anyM (cutL l.length (firstLate (rr r) (ej l)) k []) = true := by
          obtain ⟨c, h1, h2⟩ := hex
          unfold anyM; rw [List.any_eq_true]; exact ⟨c, h1, decide_eq_true h2⟩
        rw [if_pos hex, if_pos ha]; rfl
      · have ha : anyM (cutL l.length (firstLate (rr r) (ej l)) k []) = false := by
          unfold anyM; rw [List.any_eq_false]
          exact fun c hc h2 => hex ⟨c, hc, of_decide_eq_true h2⟩
        rw [if_neg hex, if_neg (by rw [ha]; simp)]
        by_cases h5 : (cutL l.length (firstLate (rr r) (ej l)) k []).length > 5000
        · show some (if _ then _ else _) = _
          rw [if_pos h5, if_pos h5]; rfl
        · show some (if _ then _ else _) = _
          rw [if_neg h5, if_neg h5]
    · rw [bifT (by simp [hm]), if_neg hm]; rfl
  · rw [bifT (by simp [hc]), if_neg hc]; rfl
end Go.Proofs.Ytejffembnkojjaa
