/- Chapter 6, plain laws, part 16: the document's one more sweep; the law PlanInserts. -/
import Derived.Test.YtejffembnkojjaaC7XL15
import Derived.Test.YtejffembnkojjaaC7XL7
namespace Go.Proofs.Ytejffembnkojjaa
open Go Go.Eng Go.Plan
set_option linter.unusedVariables false
set_option linter.unusedSimpArgs false
set_option maxRecDepth 10000
/-! ### The sequence is made -/
def insK (s : List Int) (N i k : Nat) : List Int := if k ≤ s.length + i then (rp s 4).take k else (rp s 4).take (s.length + i + 1) ++ [(N : Int)] ++ ((rp s 4).take k).drop (s.length + i + 1)
theorem insK_end {s : List Int} {N i : Nat} (h1 : 1 ≤ s.length) (hi : i < s.length) : insK s N i (4 * s.length) = insS s N (s.length + i + 1) := by
  unfold insK insS
  rw [if_neg (by omega), List.take_of_length_le (l := rp s 4) (i := 4 * s.length) (by rw [rp_len]; omega)]
theorem insK_step {s : List Int} {N i k : Nat} (h1 : 1 ≤ s.length) (hi : i < s.length) (hk : k < 4 * s.length) : insK s N i (k + 1) = insK s N i k ++ [s.getD (k % s.length) 0] ++ if k = s.length + i then [(N : Int)] else [] := by
  have hR := rp_len s 4
  have hg := rp_get h1 4 k hk
  have ht : (rp s 4).take (k + 1) = (rp s 4).take k ++ [s.getD (k % s.length) 0] := by rw [← hg, take_snoc (by omega)]
  unfold insK
  by_cases c1 : k < s.length + i
  · rw [if_pos (by omega), if_pos (by omega), if_neg (by omega), ht]; simp
  · by_cases c2 : k = s.length + i
    · rw [if_neg (by omega), if_pos (by omega), if_pos c2, c2]
      rw [← c2, ht, List.drop_of_length_le (by simp; omega)]; simp
    · rw [if_neg (by omega), if_neg (by omega), if_neg c2, ht, List.drop_append_of_le_length (by simp; omega)]
      simp
theorem insS_len {s : List Int} {N m : Nat} (hm : m ≤ 4 * s.length) : (insS s N m).length = 4 * s.length + 1 := by
  unfold insS
  simp [rp_len]; omega
theorem insK_len {s : List Int} {N i k : Nat} (h12 : s.length ≤ 12) (hi : i < s.length) : (insK s N i k).length ≤ 50 := by
  unfold insK
  have := rp_len s 4
  split <;> simp <;> omega
theorem insS_ok {n : Nat} {s : List Int} {m : Nat} (hs : okS n s) : okS (n + 1) (insS s n m) := okS_mem.2 fun x hx => by
  have hR := okS_mem.1 (rp_ok hs 4)
  unfold insS at hx
  simp only [List.mem_append, List.mem_singleton] at hx
  rcases hx with (hx | hx) | hx
  · have := hR x (List.mem_of_mem_take hx); omega
  · omega
  · have := hR x (List.mem_of_mem_drop hx); omega
theorem make_loop {F : Nat} {r : ref06_Radar} {l : List ref06_Job} {s : List Int} {e : ref06_Job} {t : Int} {L : List ref06_Job} (h1 : 1 ≤ s.length) (h12 : s.length ≤ 12) {i : Nat} (hi : i < s.length) (k2 : Int → Option (Int × Int)) :
    ∀ n k : Nat, k ≤ 4 * s.length → 4 * s.length < n + k → ref06_Insert_L10 F r l s e t L (i : Int) k2 n (insK s l.length i k) (k : Int) = ref06_Insert_K4 F r l s e t L (i : Int) k2 (insS s l.length (s.length + i + 1)) := by
  intro n
  induction n with
  | zero => intro k h1 h2; omega
  | succ n ih =>
    intro k hk0 hk
    have hlen := insK_len (N := l.length) (k := k) h12 hi
    simp only [ref06_Insert_L10, ref06_Insert_B10, ref06_Insert_K11]
    rw [ckb (by omega)]
    by_cases hc : k < 4 * s.length
    · have hmod := Nat.mod_lt k (show 0 < s.length by omega)
      have hstep := insK_step (N := l.length) h1 hi hc
      have hn := ih (k + 1) (by omega) (by omega)
      rw [bifT (by simp; omega), remN (a := k) (by omega) rfl, Option.bind_some, getb 0 (by omega), Int.toNat_natCast, apdb (by simp; omega), ckb (by omega)]
      by_cases c : k = s.length + i
      · rw [if_pos c] at hstep
        rw [bifT (by simp; omega), apdb (by simp; omega), ckb (by omega), show (k : Int) + 1 = ((k + 1 : Nat) : Int) by omega, ← hstep]
        exact hn
      · rw [if_neg c, List.append_nil] at hstep
        rw [bifF (by simp; omega), ckb (by omega), show (k : Int) + 1 = ((k + 1 : Nat) : Int) by omega, ← hstep]
        exact hn
    · rw [bifF (by simp; omega), show k = 4 * s.length by omega, insK_end h1 hi]
/-! ### Its waits -/
structure Lst (S A : List Int) (j : Int) (k : Nat) (x : Int) : Prop where
  c : (occ j (S.take k) (A.take k) = [] ∧ x = -1) ∨ (∃ p : Nat, p < k ∧ x = (p : Int) ∧ A.getD p 0 = (stO (occ j (S.take k) (A.take k))).2 ∧ occ j (S.take k) (A.take k) ≠ [])
theorem gap2J_snoc (o : List Int) (a : Int) : gap2J (o ++ [a]) = match o with | [] => 0 | _ :: _ => mx (gap2J o) (a - (stO o).2) := by
  rw [← stO_gap, stO_snoc]
  cases o with
  | nil => rfl
  | cons x o => rfl
theorem wait_step {F : Nat} {l : List ref06_Job} {S A : List Int} {y E : Int} {j : Nat} (hj : j < l.length) (hE : (l.getD j default).Every = E) (hE0 : 0 ≤ E) (hl : A.length = S.length) (h60 : S.length ≤ 100) (hA : ∀ x ∈ A, 0 ≤ x ∧ x ≤ 1000000000000) (k6 : Bool → Int → Option (Int × Int)) (c0 : Bool) :
    ∀ n k : Nat, k ≤ S.length → S.length < n + k → ∀ x, Lst S A j k x → ref06_Insert_L8 l S (A, y) (j : Int) k6 n (c0 && decide (gap2J (occ j (S.take k) (A.take k)) ≤ E)) x (k : Int) = ref06_Insert_K7 (j : Int) k6 (c0 && decide (gap2J (occ j S A) ≤ E)) := by
  intro n
  induction n with
  | zero => intro k h1 h2; omega
  | succ n ih =>
    intro k hk0 hk x hx
    simp only [ref06_Insert_L8, ref06_Insert_B8, ref06_Insert_K9]
    by_cases hc : k < S.length
    · have hstep := occ_snoc (j : Int) (S.getD k 0) (A.getD k 0) (S.take k) (A.take k) (by simp; omega)
      rw [take_snoc hc, take_snoc (by omega)] at hstep
      have hma : A.getD k 0 ∈ A := by rw [List.getD_eq_getElem?_getD, List.getElem?_eq_getElem (by omega)]; exact List.getElem_mem _
      have hba := hA _ hma
      have hn := ih (k + 1) (by omega) (by omega)
      rw [bifT (by simp; omega), getb 0 (by omega), Int.toNat_natCast]
      by_cases he : S.getD k 0 = (j : Int)
      · rw [if_pos he] at hstep
        have heb : (S.getD k 0 == (j : Int)) = true := by rw [he]; simp
        rw [bifT heb]
        have hnew : Lst S A j (k + 1) (k : Int) := ⟨Or.inr ⟨k, by omega, rfl, by
          rw [hstep, stO_snoc]; cases occ (j : Int) (S.take k) (A.take k) <;> rfl, by rw [hstep]; simp⟩⟩
        have hn2 := hn (k : Int) hnew
        rw [hstep, gap2J_snoc] at hn2
        rcases hx.c with ⟨ho, rfl⟩ | ⟨p, hp, rfl, hpA, ho⟩
        · have hg : ((decide ((-1 : Int) < 0) == false) && (((c0 && decide (gap2J (occ (j : Int) (S.take k) (A.take k)) ≤ E)) == true) && true)) = false := rfl
          rw [gdF hg, Option.bind_some, gdF hg, Option.bind_some, gdF hg, Option.bind_some, gdF hg, Option.bind_some, ckb (by omega), show (k : Int) + 1 = ((k + 1 : Nat) : Int) by omega]
          rw [ho] at hn2 ⊢
          have e0 : decide (gap2J ([] : List Int) ≤ E) = true := decide_eq_true hE0
          have e1 : decide ((0 : Int) ≤ E) = true := decide_eq_true hE0
          simp only [e1] at hn2
          rw [e0, show (bif (c0 && true) then (bif (decide ((-1 : Int) < 0)) then true else (decide ((0 : Int) ≤ (default : ref06_Job).Every))) else false) = (c0 && true) by cases c0 <;> rfl]
          exact hn2
        · have hpl : p < A.length := by omega
          have hmp : A.getD p 0 ∈ A := by rw [List.getD_eq_getElem?_getD, List.getElem?_eq_getElem hpl]; exact List.getElem_mem _
          have hbp := hA _ hmp
          have hpn : decide ((p : Int) < 0) = false := decide_eq_false (by omega)
          obtain ⟨o1, o2, ho2⟩ : ∃ a b, occ (j : Int) (S.take k) (A.take k) = a :: b := by
            cases hoo : occ (j : Int) (S.take k) (A.take k) with
            | nil => exact absurd hoo ho
            | cons a b => exact ⟨a, b, rfl⟩
          rw [ho2] at hn2 hpA ⊢
          have hmx := mx_spec (gap2J (o1 :: o2)) (A.getD k 0 - (stO (o1 :: o2)).2)
          have hsplit : decide (mx (gap2J (o1 :: o2)) (A.getD k 0 - (stO (o1 :: o2)).2) ≤ E) = (decide (gap2J (o1 :: o2) ≤ E) && decide (A.getD k 0 - A.getD p 0 ≤ E)) := by
            rw [hpA]
            by_cases a1 : gap2J (o1 :: o2) ≤ E <;> by_cases a2 : A.getD k 0 - (stO (o1 :: o2)).2 ≤ E
            · rw [decide_eq_true a1, decide_eq_true a2, decide_eq_true (by omega)]; rfl
            · rw [decide_eq_true a1, decide_eq_false a2, decide_eq_false (by omega)]; rfl
            · rw [decide_eq_false a1, decide_eq_true a2, decide_eq_false (by omega)]; rfl
            · rw [decide_eq_false a1, decide_eq_false a2, decide_eq_false (by omega)]; rfl
          simp only [hsplit] at hn2
          rw [hpn]
          cases hcc : (c0 && decide (gap2J (o1 :: o2) ≤ E)) with
          | false =>
            have hg : ((false == false) && ((false == true) && true)) = false := rfl
            rw [gdF hg, Option.bind_some, gdF hg, Option.bind_some, gdF hg, Option.bind_some, gdF hg, Option.bind_some, ckb (by omega), show (k : Int) + 1 = ((k + 1 : Nat) : Int) by omega, cond_false]
            rw [← Bool.and_assoc, hcc, Bool.false_and] at hn2
            exact hn2
          | true =>
            have hg : ((false == false) && ((true == true) && true)) = true := rfl
            rw [gdT hg, getb 0 (by omega), Int.toNat_natCast, gdT hg, getb 0 (by omega), Int.toNat_natCast, gdT hg, ckb (by omega), gdT hg, getb default (by omega), Int.toNat_natCast, ckb (by omega), show (k : Int) + 1 = ((k + 1 : Nat) : Int) by omega, cond_true, cond_false, hE]
            rw [← Bool.and_assoc, hcc, Bool.true_and] at hn2
            exact hn2
      · rw [if_neg he, List.append_nil] at hstep
        have heb : (S.getD k 0 == (j : Int)) = false := by simpa using he
        rw [bifF heb, ckb (by omega), show (k : Int) + 1 = ((k + 1 : Nat) : Int) by omega]
        have hnew : Lst S A j (k + 1) x := ⟨by
          rw [hstep]
          rcases hx.c with h | ⟨p, hp, h2, h3, h4⟩
          · exact Or.inl h
          · exact Or.inr ⟨p, by omega, h2, h3, h4⟩⟩
        have hn2 := hn x hnew
        rw [hstep] at hn2
        exact hn2
    · rw [bifF (by simp; omega), List.take_of_length_le (by omega), List.take_of_length_le (by omega)]
theorem wait_all {F : Nat} (hF : 200 ≤ F) {l : List ref06_Job} {S A : List Int} {y : Int} (h7 : l.length ≤ 7) (hev : ∀ k, k < l.length → 0 ≤ (l.getD k default).Every) (hl : A.length = S.length) (h60 : S.length ≤ 100) (hA : ∀ x ∈ A, 0 ≤ x ∧ x ≤ 1000000000000) (i : Int) (k2 : Int → Option (Int × Int)) :
    ∀ n j : Nat, j ≤ l.length → l.length < n + j → ∀ c, ref06_Insert_L6 F l i k2 S (A, y) n c (j : Int) = ref06_Insert_K5 i k2 (c && ((List.range l.length).drop j).all fun j : Nat => decide (gap2J (occ j S A) ≤ ((ej l).getD j default).every)) := by
  intro n
  induction n with
  | zero => intro j h1 h2; omega
  | succ n ih =>
    intro j hj0 hj c
    simp only [ref06_Insert_L6, ref06_Insert_B6]
    by_cases hc : j < l.length
    · have := wait_step (F := F) (y := y) (E := (l.getD j default).Every) hc rfl (hev j hc) hl h60 hA (ref06_Insert_L6 F l i k2 S (A, y) n) c F 0 (by omega) (by omega) (-1) ⟨Or.inl ⟨by simp [occ], rfl⟩⟩
      have e0 : decide (gap2J (occ (j : Int) (S.take 0) (A.take 0)) ≤ (l.getD j default).Every) = true := by
        simp only [List.take_zero, occ, gap2J]
        exact decide_eq_true (hev j hc)
      rw [e0, Bool.and_true] at this
      rw [bifT (by simp; omega)]
      refine Eq.trans this ?_
      rw [ref06_Insert_K7, ckb (by omega), show (j : Int) + 1 = ((j + 1 : Nat) : Int) by omega, ih (j + 1) (by omega) (by omega)]
      rw [show (List.range l.length).drop j = j :: (List.range l.length).drop (j + 1) by rw [List.drop_eq_getElem_cons (by simpa using hc)]; simp, List.all_cons, Bool.and_assoc]
      rw [← getD_map_rj hc default]
      rfl
    · rw [bifF (by simp; omega), List.drop_of_length_le (by simp; omega)]
      simp
/-! ### The document's answer -/
theorem ins_begin {r : RadarD} {l : List JobD} {e : JobD} {s : List Int} (hs : okS l.length s) (h1 : 1 ≤ s.length) {i : Nat} (hi : i < s.length) :
    (atD r (l ++ [e]) (insS s l.length (s.length + i + 1))).getD (s.length + i + 1) 0 - (atD r (l ++ [e]) (insS s l.length (s.length + i + 1))).getD s.length 0 = beginD' r l e s i := by
  have hR := rp_len s 4
  have hAl : (atD r l (rp s 4)).length = 4 * s.length := by rw [atD_len, hR]
  have hm : s.length + i + 1 < 4 * s.length := by omega
  rw [ins_at hs h1 (by omega) hm]
  have htl : ((atD r l (rp s 4)).take (s.length + i + 1)).length = s.length + i + 1 := by simp; omega
  have g1 : ∀ (X Y : List Int) (z : Int), X.length = s.length + i + 1 → (X ++ [z] ++ Y).getD (s.length + i + 1) 0 = z := by
    intro X Y z hX
    rw [List.getD_eq_getElem?_getD, List.append_assoc, List.getElem?_append_right (by omega), hX]; simp
  have g2 : ∀ (X Y : List Int), s.length < X.length → (X ++ Y).getD s.length 0 = X.getD s.length 0 := by
    intro X Y hX
    rw [List.getD_eq_getElem?_getD, List.getElem?_append_left hX, ← List.getD_eq_getElem?_getD]
  rw [g1 _ _ _ htl, List.append_assoc, g2 _ _ (by omega)]
  have e1 : ((atD r l (rp s 4)).take (s.length + i + 1)).getD s.length 0 = allD r l s := by
    rw [List.getD_eq_getElem?_getD, List.getElem?_take, if_pos (by omega), ← List.getD_eq_getElem?_getD, rp_at_get h1 4 _ (by omega), Nat.mod_self, Nat.div_self (by omega), atD_zero s h1]
    simp
  have e2 : doneD r l ((rp s 4).take (s.length + i + 1)) = (atD r l s).getD i 0 + allD r l s + tk r l (s.getD i 0) := by
    rw [← take_snoc (d := 0) (show s.length + i < (rp s 4).length by omega), doneD_snoc, ← atD_start r l _ (by omega), rp_at_get h1 4 _ (by omega), Nat.add_mod_left, Nat.mod_eq_of_lt hi, rp_get h1 4 _ (by omega), Nat.add_mod_left, Nat.mod_eq_of_lt hi]
    rw [show (s.length + i) / s.length = 1 from Nat.div_eq_of_lt_le (by omega) (by omega)]
    simp
  rw [e1, e2, show s.length + i + 1 - 1 = s.length + i by omega, rp_get h1 4 _ (by omega), Nat.add_mod_left, Nat.mod_eq_of_lt hi]
  unfold beginD'
  omega
theorem rInsert_loop {F : Nat} (hF : 300 ≤ F) {r : ref06_Radar} {l : List ref06_Job} (h : OkR r l) (h6 : l.length ≤ 6) {s : List Int} (hs : okS l.length s) (h1 : 1 ≤ s.length) (h12 : s.length ≤ 12) {e : ref06_Job} (he : jobErr (rj e) = 0) {t : Int} :
    ∀ n i : Nat, i ≤ s.length → s.length < n + i → ref06_Insert_L2 F r l s e t (l ++ [e]) n (i : Int) = some (match ((List.range s.length).drop i).find? (insOk (rr r) (ej l) (rj e) s t) with | some i => ((i : Int), 0) | none => (0, 28)) := by
  have hs' : okS (ej l).length s := by simpa using hs
  have hE : OkR r (l ++ [e]) := ⟨h.hr, fun j hj => by
    rcases List.mem_append.1 hj with hj | hj
    · exact h.hl j hj
    · rw [List.mem_singleton] at hj; subst hj; exact he, by simp, by simp; omega⟩
  have eE : ej (l ++ [e]) = ej l ++ [rj e] := by simp [ej]
  intro n
  induction n with
  | zero => intro i h1 h2; omega
  | succ n ih =>
    intro i hi0 hi
    simp only [ref06_Insert_L2, ref06_Insert_B2, ref06_Insert_K1]
    by_cases hc : i < s.length
    · have hok : okS (l ++ [e]).length (insS s l.length (s.length + i + 1)) := by
        rw [List.length_append]; exact insS_ok hs
      have hok' : okS (ej (l ++ [e])).length (insS s l.length (s.length + i + 1)) := by simpa using hok
      have hlen := insS_len (s := s) (N := l.length) (m := s.length + i + 1) (by omega)
      have hmk := make_loop (F := F) (r := r) (l := l) (e := e) (t := t) (L := l ++ [e]) h1 h12 hc (ref06_Insert_L2 F r l s e t (l ++ [e]) n) F 0 (by omega) (by omega)
      have e0 : insK s l.length i 0 = [] := by unfold insK; simp
      rw [e0] at hmk
      have hn := ih (i + 1) (by omega) (by omega)
      have hAl := atD_len (rr r) (ej (l ++ [e])) (insS s l.length (s.length + i + 1))
      have hb1 := atD_bd hE.hr hE.okJ _ hok' (s.length + i + 1)
      have hb2 := atD_bd hE.hr hE.okJ _ hok' s.length
      have hbeg := ins_begin (r := rr r) (l := ej l) (e := rj e) hs' h1 hc
      rw [ejl, ← eE] at hbeg
      rw [bifT (by simp; omega)]
      refine Eq.trans hmk ?_
      rw [ref06_Insert_K4, begins_eq (by omega) hE hok (by omega) he, Option.bind_some]
      dsimp only
      rw [ckb (by omega), ckb (by omega), show (s.length : Int) + (i : Int) + 1 = ((s.length + i + 1 : Nat) : Int) by omega, getb 0 (by omega), Int.toNat_natCast, getb 0 (by omega), Int.toNat_natCast, ckb (by omega), hbeg]
      rw [show (List.range s.length).drop i = i :: (List.range s.length).drop (i + 1) by rw [List.drop_eq_getElem_cons (by simpa using hc)]; simp, List.find?_cons]
      have hK3 : ref06_Insert_K3 (i : Int) (ref06_Insert_L2 F r l s e t (l ++ [e]) n) = some (match ((List.range s.length).drop (i + 1)).find? (insOk (rr r) (ej l) (rj e) s t) with | some i => ((i : Int), 0) | none => (0, 28)) := by
        rw [ref06_Insert_K3, ckb (by omega), show (i : Int) + 1 = ((i + 1 : Nat) : Int) by omega, hn]
      by_cases hgt : beginD' (rr r) (ej l) (rj e) s i > t
      · have hok2 : insOk (rr r) (ej l) (rj e) s t i = false := by unfold insOk; rw [decide_eq_false (by omega), Bool.false_and]
        rw [bifT (decide_eq_true hgt), hok2, hK3]
      · have hw := wait_all (F := F) (l := l) (S := insS s l.length (s.length + i + 1)) (A := atD (rr r) (ej (l ++ [e])) (insS s l.length (s.length + i + 1))) (y := endD (rr r) (ej (l ++ [e])) (insS s l.length (s.length + i + 1)) (rj e)) (by omega) (by omega) (fun k hk => by
          have := (jobErr_ok (h.get hk)).2.2.1
          simp only [rj] at this
          omega) hAl (by omega) (fun x hx => by
          obtain ⟨k, hk, rfl⟩ := List.mem_iff_getElem.1 hx
          have := atD_bd hE.hr hE.okJ _ hok' k
          rw [List.getD_eq_getElem?_getD, List.getElem?_eq_getElem hk] at this
          simp only [Option.getD_some] at this
          omega) (i : Int) (ref06_Insert_L2 F r l s e t (l ++ [e]) n) F 0 (by omega) (by omega) true
        rw [List.drop_zero, Bool.true_and] at hw
        have hok2 : insOk (rr r) (ej l) (rj e) s t i = ((List.range l.length).all fun j : Nat => decide (gap2J (occ j (insS s l.length (s.length + i + 1)) (atD (rr r) (ej (l ++ [e])) (insS s l.length (s.length + i + 1)))) ≤ ((ej l).getD j default).every)) := by
          unfold insOk bearsB
          rw [decide_eq_true (show beginD' (rr r) (ej l) (rj e) s i ≤ t by omega), Bool.true_and, ejl, eE]
        rw [bifF (decide_eq_false hgt)]
        refine Eq.trans hw ?_
        rw [← hok2, ref06_Insert_K5]
        cases insOk (rr r) (ej l) (rj e) s t i with
        | true => rfl
        | false => rw [cond_false, hK3]
    · rw [bifF (by simp; omega), List.drop_of_length_le (by simp; omega)]; rfl
theorem keptJ_neg {r : RadarD} {l : List JobD} {s : List Int} (hj : judgeE r l s = 0) : keptJ r l s = !anyNeg (judgeL r l s) := by
  unfold keptJ anyNeg
  rw [hj, show ((0 : Int) == 0) = true from rfl, Bool.and_true]
  induction judgeL r l s with
  | nil => rfl
  | cons a t ih =>
    rw [List.all_cons, List.any_cons, ih, Bool.not_or]
    congr 1
    by_cases h : a < 0
    · rw [decide_eq_true h, decide_eq_false (by omega)]; rfl
    · rw [decide_eq_false h, decide_eq_true (show 0 ≤ a by omega)]; rfl
theorem ref_Insert_eq {F : Nat} (hF : 300 ≤ F) (r : ref06_Radar) (l : List ref06_Job) (s : List Int) (e : ref06_Job) (t : Int) : ref06_Insert F r l s e t = some (insertR (rr r) (ej l) s (rj e) t) := by
  rw [ref06_Insert, ref_Judge_eq (by omega), Option.bind_some]
  unfold insertR
  by_cases hj : judgeE (rr r) (ej l) s = 0
  · rw [bifF (by rw [hj]; rfl), ref06_Check_eq (by omega), Option.bind_some, if_pos hj]
    simp only [List.map_cons, List.map_nil]
    by_cases hc : checkE (rr r) [rj e] = 0
    · rw [bifF (by rw [hc]; rfl), if_pos hc, ref_kept_eq (by omega), Option.bind_some, keptJ_neg hj, Bool.not_not, rin]
      cases hn : anyNeg (judgeL (rr r) (ej l) s) with
      | true => rfl
      | false =>
        rw [cond_false, if_neg (by simp)]
        by_cases ht : inB t 0 4294967296 = true
        · obtain ⟨c1, c2, c3, _⟩ := judge_ok hj
          have hL := OkR.of c1
          have h6 := (checkE_ok c1).2.1
          rw [ejl] at h6
          rw [bifF (by rw [ht]; rfl), if_pos ht, apdb (by simp; omega), List.nil_append, apdb (by simp; omega)]
          have := rInsert_loop hF hL (by omega) (s := s) (by simpa using c3) c2.1 c2.2 (checkE_one hc).2 (t := t) F 0 (by omega) (by omega)
          rw [List.drop_zero] at this
          unfold insFind
          exact this
        · rw [bifT (by simp [ht]), if_neg ht]
    · rw [bifT (by simpa using hc), if_neg hc]
  · rw [bifT (by simpa using hj), if_neg hj]
theorem PlanInserts_eq {F : Nat} (hF : 1300 ≤ F) (r : ref06_Radar) (l : List ref06_Job) (s : List Int) (e : ref06_Job) (t : Int) : law06_PlanInserts F r l s e t = some true := by
  have hw := works_at (F := F) (by omega)
  rw [law06_PlanInserts]
  by_cases hg : (bif decide (((l.length : Nat) : Int) > 10) then true else decide (((s.length : Nat) : Int) > 20)) = true
  · rw [bifT hg, hw]; rfl
  · rw [bifF (by simpa using hg)]
    have hg2 : l.length ≤ 10 ∧ s.length ≤ 20 := by
      simp only [Bool.cond_eq_ite] at hg
      by_cases h1 : ((l.length : Nat) : Int) > 10
      · simp [h1] at hg
      · simp [h1] at hg; omega
    rw [jobs_eq (by omega) (by omega), Option.bind_some, Insert_eq (by omega), Option.bind_some, ref_Insert_eq (by omega), Option.bind_some, dj_jobs, pj_job]
    rw [show pr (plan_Radar.mk r.Rays r.Turn r.Move r.Duty) = rr r from rfl]
    simp [gd, hw]
end Go.Proofs.Ytejffembnkojjaa
