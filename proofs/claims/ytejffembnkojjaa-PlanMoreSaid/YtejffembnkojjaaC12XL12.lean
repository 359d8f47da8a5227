/- Chapter 6, plain laws, part 12: how long jobs wait, by the laws' own reckoning; the law PlanKeeps. -/
import Derived.Test.YtejffembnkojjaaC12XL10
import Derived.Test.YtejffembnkojjaaC12PlanV
namespace Go.Proofs.Ytejffembnkojjaa
open Go Go.Eng Go.Plan
set_option linter.unusedVariables false
set_option linter.unusedSimpArgs false
set_option maxRecDepth 10000
/-! ### Waits -/
theorem getI1 {l : List Int} {k : Nat} (h : k < l.length) : getI l (k : Int) = some (l.getD k 0) := by
  rw [getI, if_pos (by omega), Int.toNat_natCast, List.getD_eq_getElem?_getD, List.getElem?_eq_getElem h]; rfl
theorem set_rep {n k : Nat} (h : k < n) : (List.replicate k (-1 : Int) ++ List.replicate (n - k) 0).set k (-1) = List.replicate (k + 1) (-1) ++ List.replicate (n - (k + 1)) 0 := by
  rw [List.set_append_right _ _ (by simp)]
  simp only [List.length_replicate, Nat.sub_self]
  obtain ⟨m, hm⟩ : ∃ m, n - k = m + 1 := ⟨n - k - 1, by omega⟩
  rw [hm, List.replicate_succ, List.set_cons_zero, show n - (k + 1) = m by omega, List.replicate_succ']
  simp
theorem waits_init {F n : Nat} (hn : n ≤ 1000) (s at_ out : List Int) : ∀ m k : Nat, k ≤ n → n < m + k → law06_waits_L5 F s at_ out m (n : Int) (k : Int) (List.replicate k (-1) ++ List.replicate (n - k) 0) = law06_waits_K1 F s at_ out (List.replicate n (-1)) := by
  intro m
  induction m with
  | zero => intro k h1 h2; omega
  | succ m ih =>
    intro k hk0 hk
    simp only [law06_waits_L5, law06_waits_B5]
    by_cases hc : k < n
    · rw [bifT (by simp; omega), getI1 (by simp; omega), Option.bind_some, setb (by simp; omega), Int.toNat_natCast, set_rep hc, ckb (by omega), show (k : Int) + 1 = ((k + 1 : Nat) : Int) by omega]
      exact ih (k + 1) (by omega) (by omega)
    · rw [bifF (by simp; omega), show k = n by omega]; simp
/-- The arrays behind some elements. -/
structure Wt (s at_ : List Int) (n k : Nat) (out last : List Int) : Prop where
  o : out.length = n
  l : last.length = n
  og : ∀ j : Nat, j < n → out.getD j 0 = (stO (occ j (s.take k) (at_.take k))).1
  lg : ∀ j : Nat, j < n → last.getD j 0 = (stO (occ j (s.take k) (at_.take k))).2
theorem stO_bd {B : Int} {o : List Int} (hB : 0 ≤ B) (h : ∀ x ∈ o, 0 ≤ x ∧ x ≤ B) : (0 ≤ (stO o).1 ∧ (stO o).1 ≤ B) ∧ (-1 ≤ (stO o).2 ∧ (stO o).2 ≤ B) := by
  cases o with
  | nil => simp [stO]; omega
  | cons x o =>
    have h1 := h x (by simp)
    have h2 := h _ (lastO_mem' x o)
    have h3 := dmax_ge 0 x o
    have h4 := dmax_bd' (B := B) 0 x o hB h1 (fun y hy => h y (by simp [hy]))
    exact ⟨⟨h3, h4⟩, by show -1 ≤ lastO x o ∧ lastO x o ≤ B; omega⟩
theorem waits_loop {s at_ : List Int} {n : Nat} {B : Int} (hs : okS n s) (hl : at_.length = s.length) (hB : 0 ≤ B ∧ B ≤ 1000000000000) (hat : ∀ x ∈ at_, 0 ≤ x ∧ x ≤ B) (h60 : s.length ≤ 1000) :
    ∀ m k : Nat, k ≤ s.length → s.length < m + k → ∀ out last, Wt s at_ n k out last → ∃ res, law06_waits_L3 s at_ m (k : Int) out last = some res ∧ res.length = n ∧ ∀ j : Nat, j < n → res.getD j 0 = gap2J (occ j s at_) := by
  intro m
  induction m with
  | zero => intro k h1 h2; omega
  | succ m ih =>
    intro k hk0 hk out last hW
    simp only [law06_waits_L3, law06_waits_B3, law06_waits_K2, law06_waits_K4]
    by_cases hc : k < s.length
    · have hx := hs k hc
      have hma : at_.getD k 0 ∈ at_ := by rw [List.getD_eq_getElem?_getD, List.getElem?_eq_getElem (by omega)]; exact List.getElem_mem _
      have hba := hat _ hma
      have ho := hW.o
      have hll := hW.l
      have hjn : (s.getD k 0).toNat < n := by omega
      have hjc : (((s.getD k 0).toNat : Nat) : Int) = s.getD k 0 := by omega
      have hog := hW.og _ hjn
      have hlg := hW.lg _ hjn
      rw [hjc] at hog hlg
      have hsub : ∀ x ∈ occ (s.getD k 0) (s.take k) (at_.take k), 0 ≤ x ∧ x ≤ B := fun x hx => hat x (List.mem_of_mem_take (occ_sub' _ _ _ hx))
      have hbd := stO_bd hB.1 hsub
      have hstep : ∀ j : Int, occ j (s.take (k + 1)) (at_.take (k + 1)) = occ j (s.take k) (at_.take k) ++ if s.getD k 0 = j then [at_.getD k 0] else [] := by
        intro j
        have := occ_snoc j (s.getD k 0) (at_.getD k 0) (s.take k) (at_.take k) (by simp; omega)
        rwa [take_snoc hc, take_snoc (by omega)] at this
      rw [bifT (by simp; omega), getb 0 (by omega), Int.toNat_natCast, getb 0 (by omega), hlg]
      -- the new arrays
      have hnew : ∀ o', o'.length = n → (∀ j : Nat, j < n → j ≠ (s.getD k 0).toNat → o'.getD j 0 = out.getD j 0) → o'.getD (s.getD k 0).toNat 0 = (stO (occ (s.getD k 0) (s.take (k + 1)) (at_.take (k + 1)))).1 → Wt s at_ n (k + 1) o' (last.set (s.getD k 0).toNat (at_.getD k 0)) := by
        intro o' h1 h2 h3
        refine ⟨h1, by simp [hll], fun j hj => ?_, fun j hj => ?_⟩
        · by_cases hjj : j = (s.getD k 0).toNat
          · subst hjj; rw [h3, hjc]
          · rw [h2 j hj hjj, hW.og j hj, hstep, if_neg (by omega), List.append_nil]
        · rw [set_getD]
          by_cases hjj : (s.getD k 0).toNat = j
          · subst hjj
            rw [if_pos ⟨rfl, by omega⟩, hstep, hjc, if_pos rfl, stO_snoc]
            cases occ (s.getD k 0) (s.take k) (at_.take k) <;> rfl
          · rw [if_neg (fun h => hjj h.1), hW.lg j hj, hstep, if_neg (by omega), List.append_nil]
      have hocc := hstep (s.getD k 0)
      rw [if_pos rfl] at hocc
      by_cases hge : (stO (occ (s.getD k 0) (s.take k) (at_.take k))).2 ≥ 0
      · rw [bifT (decide_eq_true hge), getb 0 (by omega), getI1 (by omega), Option.bind_some, getb 0 (by omega), hlg, ckb (by omega), getb 0 (by omega), setb (by omega), Option.bind_some, getb 0 (by omega), setb (by omega), ckb (by omega), show (k : Int) + 1 = ((k + 1 : Nat) : Int) by omega, mx_if, hog]
        refine ih (k + 1) (by omega) (by omega) _ _ (hnew _ (by simp [ho]) (fun j _ hj => ?_) ?_)
        · rw [set_getD, if_neg (fun h => hj h.1.symm)]
        · rw [set_getD, if_pos ⟨rfl, by omega⟩, hocc, stO_snoc]
          cases ho2 : occ (s.getD k 0) (s.take k) (at_.take k) with
          | nil => rw [ho2] at hge; simp [stO] at hge
          | cons x o => rfl
      · rw [bifF (decide_eq_false hge), getI1 (by omega), Option.bind_some, getb 0 (by omega), setb (by omega), ckb (by omega), show (k : Int) + 1 = ((k + 1 : Nat) : Int) by omega]
        refine ih (k + 1) (by omega) (by omega) _ _ (hnew _ ho (fun _ _ _ => rfl) ?_)
        rw [hog, hocc, stO_snoc]
        cases ho2 : occ (s.getD k 0) (s.take k) (at_.take k) with
        | nil => rfl
        | cons x o =>
          have := hsub _ (by rw [ho2]; exact lastO_mem' x o)
          rw [ho2] at hge
          exact absurd this.1 hge
    · rw [bifF (by simp; omega)]
      refine ⟨out, rfl, hW.o, fun j hj => ?_⟩
      rw [hW.og j hj, List.take_of_length_le (by omega), List.take_of_length_le (by omega), stO_gap]
theorem waits_eq {F : Nat} {l : List plan_Job} (h7 : l.length ≤ 7) {s at_ : List Int} {B : Int} (hF : 1100 ≤ F) (hs : okS l.length s) (hl : at_.length = s.length) (hB : 0 ≤ B ∧ B ≤ 1000000000000) (hat : ∀ x ∈ at_, 0 ≤ x ∧ x ≤ B) (h60 : s.length ≤ 1000) :
    ∃ res, law06_waits F l s at_ = some res ∧ res.length = l.length ∧ ∀ j : Nat, j < l.length → res.getD j 0 = gap2J (occ j s at_) := by
  rw [law06_waits, mkb (by omega), mkb (by omega), List.length_replicate]
  have := waits_init (F := F) (n := l.length) (by omega) s at_ (List.replicate l.length 0) F 0 (by omega) (by omega)
  simp only [List.replicate_zero, List.nil_append, Nat.sub_zero] at this
  rw [show ((0 : Nat) : Int) = 0 from rfl] at this
  rw [this, law06_waits_K1]
  refine waits_loop hs hl hB hat h60 F 0 (by omega) (by omega) _ _ ⟨by simp, by simp, fun j hj => ?_, fun j hj => ?_⟩
  · simp [occ, stO, List.getD_eq_getElem?_getD, List.getElem?_replicate, hj]
  · simp [occ, stO, List.getD_eq_getElem?_getD, List.getElem?_replicate, hj]
end Go.Proofs.Ytejffembnkojjaa
