/- Chapter 6, plain laws, part 22: what the document accepts as a proof; the law PlanRefutes. -/
import Derived.Test.YtejffembnkojjaaC6XL21
namespace Go.Proofs.Ytejffembnkojjaa
open Go Go.Eng Go.Plan
set_option linter.unusedVariables false
set_option linter.unusedSimpArgs false
set_option maxRecDepth 10000
/-! ### Covered -/
abbrev anyV : List Int → Int → Bool := fun _ _ => true
def covN (n : Nat) (o : Option (List CutD)) : Int := match o with
  | some rest => (n : Int) - rest.length
  | none => -1
theorem cov_suffix {N : Nat} {V : List Int → Int → Bool} {d : Nat} {p : List Int} {cs rest : List CutD} (h : cov N V d p cs = some rest) : rest = cs.drop (cs.length - rest.length) ∧ rest.length ≤ cs.length := by
  obtain ⟨u, e, _⟩ := cov_used d p cs rest h
  subst e
  simp
/-- The document's loop over jobs, both in its two forms. -/
theorem covered_loop {N : Nat} {l : List ref06_Job} (hN : l.length = N) (h6 : N ≤ 7) {d : Nat} {p : List Int} (hp : p.length ≤ 20) (self_ : List ref06_Job → List ref06_Cut → List Int → Option Int) {proof : List ref06_Cut} (h5 : proof.length ≤ 6000)
    (hself : ∀ (L : List ref06_Cut) (j : Nat), L.length ≤ proof.length → (∀ c ∈ L, c ∈ proof) → j < N → self_ l L (p ++ [(j : Int)]) = some (covN L.length (cov N anyV d (p ++ [(j : Int)]) (L.map cr))))
    (L4 : Nat → Int → Int → Option Int) (hL4 : ∀ n x y, L4 (n + 1) x y = (bif (decide (y < ((l.length : Nat) : Int))) then ((cutI proof x ((proof.length : Nat) : Int)).bind fun l375 =>
      (apd 8 ([] : List Int) p).bind fun l381 =>
      (apd 8 l381 ([y])).bind fun l385 =>
      (self_ l l375 l385).bind fun y389 =>
      bif (decide (y389 < 0)) then (some (-1)) else ((ck (x + y389)).bind fun x440 =>
      (ck (y + 1)).bind fun x441 =>
      L4 n x440 x441)) else (some x))) :
    ∀ m j : Nat, j ≤ N → N < m + j → ∀ n : Nat, n ≤ proof.length → L4 m (n : Int) (j : Int) = some (covN proof.length (covF (cov N anyV d) p ((List.range N).drop j) ((proof.drop n).map cr))) := by
  intro m
  induction m with
  | zero => intro j h1 h2; omega
  | succ m ih =>
    intro j hj0 hj n hn
    rw [hL4]
    by_cases hc : j < N
    · have c1 : cutI proof (n : Int) ((proof.length : Nat) : Int) = some (proof.drop n) := by
        rw [cutI, if_pos (by omega), Int.toNat_natCast, Int.toNat_natCast, List.take_of_length_le (by simp)]
      rw [bifT (by simp; omega), c1, Option.bind_some, apdb (by simp; omega), List.nil_append, apdb (by simp; omega), hself _ j (by simp) (fun c hc => List.mem_of_mem_drop hc) hc, Option.bind_some, range_drop hc, covF]
      cases hcv : cov N anyV d (p ++ [(j : Int)]) ((proof.drop n).map cr) with
      | none => rw [bifT (by rfl)]; rfl
      | some rest =>
        obtain ⟨hs1, hs2⟩ := cov_suffix hcv
        simp only [List.length_map, List.length_drop] at hs1 hs2
        have hcn : covN (proof.drop n).length (some rest) = ((proof.length - n - rest.length : Nat) : Int) := by
          show ((proof.drop n).length : Int) - rest.length = _
          rw [List.length_drop]; omega
        have hrest : rest = ((proof.drop (n + (proof.length - n - rest.length))).map cr) := by
          conv => lhs; rw [hs1]
          rw [← List.map_drop, List.drop_drop]
        rw [hcn, bifF (by simp), ckb (by omega), ckb (by omega), show (n : Int) + ((proof.length - n - rest.length : Nat) : Int) = ((n + (proof.length - n - rest.length) : Nat) : Int) by omega, show (j : Int) + 1 = ((j + 1 : Nat) : Int) by omega, ih (j + 1) (by omega) (by omega) _ (by omega), ← hrest, Option.bind_some]
    · rw [bifF (by simp; omega), List.drop_of_length_le (by simp; omega)]
      show _ = some ((proof.length : Int) - ((proof.drop n).map cr).length)
      simp
      omega
theorem covered_eq {l : List ref06_Job} (h1 : 1 ≤ l.length) (h6 : l.length ≤ 7) : ∀ d F : Nat, 1300 + d ≤ F → ∀ p : List Int, p.length + d = 16 → ∀ proof : List ref06_Cut, proof.length ≤ 6000 → (∀ c ∈ proof, c.Begin.length ≤ 16) →
    ref06_covered F l proof p = some (covN proof.length (cov l.length anyV d p (proof.map cr))) := by
  intro d
  induction d with
  | zero =>
    intro F hF p hl proof h5 hb
    obtain ⟨F, rfl⟩ : ∃ G, F = G + 1 := ⟨F - 1, by omega⟩
    rw [ref06_covered, ref06_covered_R]
    cases proof with
    | nil => rfl
    | cons c cs =>
      have g0 : getI (c :: cs) 0 = some c := rfl
      have hbc := hb c (by simp)
      rw [bifF (by simp; omega), g0, Option.bind_some, starts_eq (by omega) (by omega), Option.bind_some]
      show _ = some (covN (c :: cs).length (if c.Begin.take p.length = p ∧ p.length ≤ c.Begin.length then (if p ≠ [] ∧ c.Begin.length = p.length then (if anyV p c.Late then some (cs.map cr) else none) else none) else none))
      by_cases hst : c.Begin.take p.length = p ∧ p.length ≤ c.Begin.length
      · have hleaf : p ≠ [] ∧ c.Begin.length = p.length := ⟨by intro e; subst e; simp at hl, by omega⟩
        rw [decide_eq_true hst, Bool.not_true, cond_false, decide_eq_true (show ((p.length : Nat) : Int) > 0 by omega), cond_true, Option.bind_some, bifT (by simp [hleaf.2]), if_pos hst, if_pos hleaf, if_pos rfl]
        show some 1 = some ((((c :: cs).length : Nat) : Int) - ((cs.map cr).length : Nat))
        simp
        omega
      · rw [decide_eq_false hst, Bool.not_false, cond_true, if_neg hst]; rfl
  | succ d ihd =>
    intro F hF p hl proof h5 hb
    obtain ⟨F, rfl⟩ : ∃ G, F = G + 1 := ⟨F - 1, by omega⟩
    rw [ref06_covered, ref06_covered_R]
    cases proof with
    | nil => rfl
    | cons c cs =>
      have g0 : getI (c :: cs) 0 = some c := rfl
      have hbc := hb c (by simp)
      have hself : ∀ (L : List ref06_Cut) (j : Nat), L.length ≤ (c :: cs).length → (∀ x ∈ L, x ∈ c :: cs) → j < l.length → ref06_covered F l L (p ++ [(j : Int)]) = some (covN L.length (cov l.length anyV d (p ++ [(j : Int)]) (L.map cr))) := by
        intro L j hLn hL hj
        have hLl : L.length ≤ 6000 := Nat.le_trans hLn h5
        exact ihd F (by omega) (p ++ [(j : Int)]) (by simp; omega) L hLl (fun x hx => hb x (hL x hx))
      rw [bifF (by simp; omega), g0, Option.bind_some, starts_eq (by omega) (by omega), Option.bind_some]
      rw [List.map_cons, cov_step]
      show _ = some (covN (c :: cs).length (if c.Begin.take p.length = p ∧ p.length ≤ c.Begin.length then (if p ≠ [] ∧ c.Begin.length = p.length then (if anyV p c.Late then some (cs.map cr) else none) else covF (cov l.length anyV d) p (List.range l.length) ((c :: cs).map cr)) else none))
      by_cases hst : c.Begin.take p.length = p ∧ p.length ≤ c.Begin.length
      · rw [decide_eq_true hst, Bool.not_true, cond_false, if_pos hst]
        by_cases hp0 : p = []
        · subst hp0
          rw [decide_eq_false (by simp), cond_false, if_neg (by simp)]
          have := covered_loop (N := l.length) (l := l) rfl h6 (d := d) (p := []) (by simp) (ref06_covered F) (proof := c :: cs) h5 hself (ref06_covered_L4 (ref06_covered F) l (c :: cs) []) (fun n x y => rfl) F 0 (by omega) (by omega) 0 (by omega)
          rw [List.drop_zero, List.drop_zero] at this
          exact this
        · have hpl : 1 ≤ p.length := by cases p with
            | nil => exact absurd rfl hp0
            | cons _ _ => simp
          rw [decide_eq_true (show ((p.length : Nat) : Int) > 0 by omega), cond_true, Option.bind_some]
          by_cases hleaf : c.Begin.length = p.length
          · rw [bifT (by simp [hleaf]), if_pos ⟨hp0, hleaf⟩, if_pos rfl]
            show some 1 = some ((((c :: cs).length : Nat) : Int) - ((cs.map cr).length : Nat))
            simp
            omega
          · rw [bifF (by simp; omega), if_neg (fun h => hleaf h.2)]
            have := covered_loop (N := l.length) (l := l) rfl h6 (d := d) (p := p) (by omega) (ref06_covered F) (proof := c :: cs) h5 hself (ref06_covered_L2 (ref06_covered F) l (c :: cs) p) (fun n x y => rfl) F 0 (by omega) (by omega) 0 (by omega)
            rw [List.drop_zero, List.drop_zero] at this
            exact this
      · rw [decide_eq_false hst, Bool.not_false, cond_true, if_neg hst]; rfl
/-! ### What the document accepts -/
/-- A cut that is valid by itself. -/
def okC (r : RadarD) (l : List JobD) (c : CutD) : Prop := (1 ≤ c.1.length ∧ c.1.length ≤ 16) ∧ okS l.length c.1 ∧ validB r l c.1 c.2 = true
theorem cov_ok {r : RadarD} {l : List JobD} {P : List CutD} (h : ∀ c ∈ P, okC r l c) : cov l.length anyV 16 [] P = some [] ↔ cov l.length (validB r l) 16 [] P = some [] := by
  constructor
  · exact cov_mono (P := okC r l) (fun c hP _ => hP.2.2) 16 [] P [] h
  · exact cov_mono (P := fun _ => True) (fun c _ _ => rfl) 16 [] P [] (fun _ _ => trivial)
theorem cov_bad {r : RadarD} {l : List JobD} {P : List CutD} (h : ¬ ∀ c ∈ P, okC r l c) : cov l.length (validB r l) 16 [] P ≠ some [] := by
  intro hc
  obtain ⟨u, e, hu⟩ := cov_used 16 [] P [] hc
  rw [List.append_nil] at e
  subst e
  refine h fun c hc => ?_
  obtain ⟨h1, h2, t, h3, h4, h5⟩ := hu.v c hc
  rw [List.nil_append] at h3
  refine ⟨⟨?_, by rw [h3]; exact h4⟩, by rw [h3]; exact h5, h1⟩
  cases hcl : c.1 with
  | nil => exact absurd hcl h2
  | cons _ _ => simp
theorem covN_full {n : Nat} (o : Option (List CutD)) : (covN n o != (n : Int)) = !(decide (o = some [])) := by
  cases o with
  | none =>
    have : ((-1 : Int) != (n : Int)) = true := by simp
    show ((-1 : Int) != (n : Int)) = _
    rw [this]; rfl
  | some rest =>
    show (((n : Int) - rest.length) != (n : Int)) = _
    cases rest with
    | nil => simp
    | cons c cs =>
      have h1 : (((n : Int) - ((c :: cs).length : Nat)) != (n : Int)) = true := by simp; omega
      rw [h1]; simp
theorem vk1_eq {F : Nat} (hF : 1400 ≤ F) {l : List ref06_Job} (h1 : 1 ≤ l.length) (h6 : l.length ≤ 7) {proof : List ref06_Cut} (h5 : proof.length ≤ 5000) (hb : ∀ c ∈ proof, c.Begin.length ≤ 16) : ref06_Verify_K1 F l proof = some (if cov l.length anyV 16 [] (proof.map cr) = some [] then 0 else 20) := by
  rw [ref06_Verify_K1, covered_eq h1 h6 16 F (by omega) [] (by simp) proof (by omega) hb, Option.bind_some, covN_full]
  by_cases hc : cov l.length anyV 16 [] (proof.map cr) = some []
  · rw [decide_eq_true hc, if_pos hc]; rfl
  · rw [decide_eq_false hc, if_neg hc]; rfl
theorem vinner_eq {F : Nat} {r : ref06_Radar} {l : List ref06_Job} (h1 : 1 ≤ l.length) (h6 : l.length ≤ 7) {p2 : List ref06_Cut} {x : Int} {k2 : Int → Option Int} {u : ref06_Cut} (h16 : u.Begin.length ≤ 16) :
    ∀ n k : Nat, k ≤ u.Begin.length → u.Begin.length < n + k → ∀ b : Bool, ref06_Verify_L5 F r l p2 x k2 u n b (k : Int) = ref06_Verify_K4 F r l p2 x k2 u (b && (u.Begin.drop k).all fun y => inB y 0 ((l.length : Int) - 1)) := by
  intro n
  induction n with
  | zero => intro k h1 h2; omega
  | succ n ih =>
    intro k hk0 hk b
    rw [ref06_Verify_L5, ref06_Verify_B5]
    by_cases hc : k < u.Begin.length
    · rw [decide_eq_true (show (k : Int) < ((u.Begin.length : Nat) : Int) by omega), cond_true]
      cases b with
      | false => rw [cond_false, Bool.false_and]
      | true =>
        have hd : u.Begin.drop k = u.Begin.getD k 0 :: u.Begin.drop (k + 1) := by
          rw [List.drop_eq_getElem_cons hc, List.getD_eq_getElem?_getD, List.getElem?_eq_getElem hc]; rfl
        rw [cond_true, getb 0 (by omega), Int.toNat_natCast, ckb (by omega), ckb (by omega), rin, show (k : Int) + 1 = ((k + 1 : Nat) : Int) by omega, ih (k + 1) (by omega) (by omega), hd, List.all_cons, Bool.true_and]
    · rw [decide_eq_false (show ¬ (k : Int) < ((u.Begin.length : Nat) : Int) by omega), cond_false, cond_false, List.drop_of_length_le (by omega), List.all_nil, Bool.and_true]
theorem all_okS {n : Nat} {s : List Int} : (s.all fun y => inB y 0 ((n : Int) - 1)) = true ↔ okS n s := by
  rw [List.all_eq_true, okS_mem]
  constructor
  · intro h j hj
    have := inB_iff.1 (h j hj)
    omega
  · intro h j hj
    have := h j hj
    exact inB_iff.2 (by omega)
open Classical in
theorem vloop_eq {F : Nat} (hF : 5100 ≤ F) {r : ref06_Radar} {l : List ref06_Job} (h : OkR r l) {P : List ref06_Cut} (h5 : P.length ≤ 5000) {X : Int} (hX : (∀ c ∈ P, okC (rr r) (ej l) (cr c)) → ref06_Verify_K1 F l P = some X) :
    ∀ n k : Nat, k ≤ P.length → P.length < n + k → (∀ c ∈ P.take k, okC (rr r) (ej l) (cr c)) → ref06_Verify_L2 F r l P n (k : Int) = some (if ∀ c ∈ P, okC (rr r) (ej l) (cr c) then X else 20) := by
  have h1 := h.h1
  have h6 := h.h6
  intro n
  induction n with
  | zero => intro k h1 h2; omega
  | succ n ih =>
    intro k hk0 hk hok
    rw [ref06_Verify_L2, ref06_Verify_B2]
    by_cases hc : k < P.length
    · have gk : getI P (k : Int) = some P[k] := by
        rw [getI, if_pos (by omega), Int.toNat_natCast]; exact List.getElem?_eq_getElem hc
      have hmem : P[k] ∈ P := List.getElem_mem hc
      rw [bifT (by simp; omega), gk, Option.bind_some]
      by_cases hlen : 1 ≤ P[k].Begin.length ∧ P[k].Begin.length ≤ 16
      · rw [decide_eq_true (show ((P[k].Begin.length : Nat) : Int) ≥ 1 by omega), cond_true, decide_eq_true (show ((P[k].Begin.length : Nat) : Int) ≤ 16 by omega), cond_true, Option.bind_some, ckb (by omega), rin, show (0 : Int) = ((0 : Nat) : Int) from rfl, vinner_eq h1 h6 hlen.2 F 0 (by omega) (by omega), List.drop_zero]
        rw [ref06_Verify_K4, gk, Option.bind_some]
        by_cases hv : inB P[k].Late ((0 : Nat) : Int) ((l.length : Int) - 1) = true ∧ okS l.length P[k].Begin
        · have hv1 := inB_iff.1 hv.1
          rw [hv.1, all_okS.2 hv.2, Bool.and_true, Bool.not_true, cond_false, ref_Late_eq (by omega) h hv.2 hlen.1 (by omega) (by omega), Option.bind_some, cond_false]
          cases hl : lateD (rr r) (ej l) P[k].Begin P[k].Late with
          | false =>
            rw [Bool.not_false, cond_true, if_neg]
            intro hall
            have := (hall _ hmem).2.2
            simp only [validB, cr, hl, Bool.and_false] at this
            cases this
          | true =>
            rw [Bool.not_true, cond_false, ref06_Verify_K3, ckb (by omega), show (k : Int) + 1 = ((k + 1 : Nat) : Int) by omega]
            refine ih (k + 1) (by omega) (by omega) fun c hc2 => ?_
            rw [List.take_succ_eq_append_getElem hc, List.mem_append, List.mem_singleton] at hc2
            rcases hc2 with hc2 | hc2
            · exact hok c hc2
            · subst hc2
              refine ⟨hlen, by rw [ejl]; exact hv.2, ?_⟩
              show (inB P[k].Late 0 (((ej l).length : Int) - 1) && lateD (rr r) (ej l) P[k].Begin P[k].Late) = true
              rw [ejl, hl, Bool.and_true]; exact hv.1
        · have hb : (inB P[k].Late ((0 : Nat) : Int) ((l.length : Int) - 1) && P[k].Begin.all fun y => inB y 0 ((l.length : Int) - 1)) = false := by
            rw [Bool.eq_false_iff]
            intro hb
            rw [Bool.and_eq_true] at hb
            exact hv ⟨hb.1, all_okS.1 hb.2⟩
          rw [hb, Bool.not_false, cond_true, cond_true, cond_true, if_neg]
          intro hall
          obtain ⟨_, b2, b3⟩ := hall _ hmem
          rw [ejl] at b2
          refine hv ⟨?_, b2⟩
          have b4 : (inB P[k].Late 0 (((ej l).length : Int) - 1) && lateD (rr r) (ej l) P[k].Begin P[k].Late) = true := b3
          rw [ejl, Bool.and_eq_true] at b4
          exact b4.1
      · have hb : (bif (decide (((P[k].Begin.length : Nat) : Int) ≥ 1)) then (decide (((P[k].Begin.length : Nat) : Int) ≤ 16)) else false) = false := by
          by_cases hl1 : ((P[k].Begin.length : Nat) : Int) ≥ 1
          · rw [decide_eq_true hl1, cond_true]; exact decide_eq_false (by omega)
          · rw [decide_eq_false hl1, cond_false]
        obtain ⟨F', hF'⟩ : ∃ G, F = G + 1 := ⟨F - 1, by omega⟩
        have hL7 : ref06_Verify_L7 F r l P (k : Int) (ref06_Verify_L2 F r l P n) P[k] F false 0 = some 20 := by
          generalize ref06_Verify_L2 F r l P n = K
          have : ∀ m, ref06_Verify_L7 F r l P (k : Int) K P[k] (m + 1) false 0 = some 20 := by
            intro m
            rw [ref06_Verify_L7, ref06_Verify_B7]
            cases decide ((0 : Int) < ((P[k].Begin.length : Nat) : Int)) <;> rw [ref06_Verify_K6] <;> rfl
          have h3 := this (F - 1)
          rw [show F - 1 + 1 = F by omega] at h3
          exact h3
        rw [hb, cond_false, hL7, if_neg]
        intro hall
        exact hlen (hall _ hmem).1
    · rw [bifF (by simp; omega)]
      rw [List.take_of_length_le (by omega)] at hok
      rw [hX hok, if_pos hok]
theorem ref_Verify_eq {F : Nat} (hF : 5100 ≤ F) (r : ref06_Radar) (l : List ref06_Job) (P : List ref06_Cut) : ref06_Verify F r l P = some (verifyR (rr r) (ej l) (P.map cr)) := by
  rw [ref06_Verify, ref06_Check_eq (by omega), Option.bind_some]
  unfold verifyR
  by_cases hc : checkE (rr r) (ej l) = 0
  · have h := OkR.of hc
    rw [bifF (by simp [hc]), if_pos hc, List.length_map]
    by_cases h5 : P.length > 5000
    · rw [bifT (by simp; omega), if_pos h5]
    · rw [bifF (by simp; omega), if_neg h5]
      have := vloop_eq hF h (P := P) (by omega) (X := if cov l.length anyV 16 [] (P.map cr) = some [] then 0 else 20) (fun hall => vk1_eq (by omega) h.h1 h.h6 (by omega) (fun c hc => (hall c hc).1.2)) F 0 (by omega) (by omega) (by simp)
      refine Eq.trans this ?_
      congr 1
      by_cases hall : ∀ c ∈ P, okC (rr r) (ej l) (cr c)
      · rw [if_pos hall]
        have hall' : ∀ c ∈ P.map cr, okC (rr r) (ej l) c := by
          intro c hc
          obtain ⟨d, hd, rfl⟩ := List.mem_map.1 hc
          exact hall d hd
        have := cov_ok hall'
        rw [ejl] at this ⊢
        by_cases hcv : cov l.length anyV 16 [] (P.map cr) = some []
        · rw [if_pos hcv, if_pos (this.1 hcv)]
        · rw [if_neg hcv, if_neg (fun h => hcv (this.2 h))]
      · rw [if_neg hall, if_neg]
        exact cov_bad (fun h => hall fun c hc => h _ (List.mem_map_of_mem hc))
  · rw [bifT (by simp [hc]), if_neg hc]
/-! ### The law -/
def lcut (c : ref06_Cut) : plan_Cut := ⟨c.Begin, c.Late⟩
theorem cuts_loop {l : List ref06_Cut} (h : l.length ≤ 1000000) : ∀ n k : Nat, k ≤ l.length → l.length < n + k → law06_cuts_L2 l n ((l.take k).map lcut) (k : Int) = some (l.map lcut) := by
  intro n
  induction n with
  | zero => intro k h1 h2; omega
  | succ n ih =>
    intro k hk0 hk
    simp only [law06_cuts_L2, law06_cuts_B2, law06_cuts_K1]
    by_cases hc : k < l.length
    · have gk : getI l (k : Int) = some l[k] := by
        rw [getI, if_pos (by omega), Int.toNat_natCast]; exact List.getElem?_eq_getElem hc
      have hs : (l.take k).map lcut ++ [lcut l[k]] = (l.take (k + 1)).map lcut := by
        rw [List.take_succ_eq_append_getElem hc, List.map_append]; rfl
      have hn := ih (k + 1) (by omega) (by omega)
      rw [bifT (by simp; omega), gk, Option.bind_some, Option.bind_some, apdb (by simp; omega), ckb (by omega), show (k : Int) + 1 = ((k + 1 : Nat) : Int) by omega, ← hn, ← hs]
      rfl
    · rw [bifF (by simp; omega), List.take_of_length_le (by omega)]
theorem lcuts_eq {F : Nat} {l : List ref06_Cut} (h : l.length < F) (h2 : l.length ≤ 1000000) : law06_cuts F l = some (l.map lcut) := cuts_loop h2 F 0 (by omega) (by omega)
theorem cp_lcut (l : List ref06_Cut) : (l.map lcut).map cp = l.map cr := by
  rw [List.map_map]; rfl
theorem refuteR_len (r : RadarD) (l : List JobD) (most : Int) : (refuteR r l most).1.length ≤ 5000 := by
  unfold refuteR
  split
  · split
    · split
      · simp
      · split
        · simp
        · rename_i h5
          show (cutL _ _ _ []).length ≤ 5000
          omega
    · simp
  · simp
theorem refuteR_begin (r : RadarD) (l : List JobD) (most : Int) : ∀ c ∈ (refuteR r l most).1, c.1.length ≤ 8 := by
  unfold refuteR
  split
  · split
    · rename_i hm
      have hm' := inB_iff.1 hm
      split
      · simp
      · split
        · simp
        · intro c hc
          obtain ⟨t, h1, _, h3, _⟩ := cutL_mem _ _ c hc
          rw [h1, List.nil_append]; omega
    · simp
  · simp
theorem refutes_K2 {F : Nat} (hF : 6000 ≤ F) (r : ref06_Radar) (l : List ref06_Job) (hl : l.length ≤ 10) {P : List ref06_Cut} (hP : P.length ≤ 5010) {y : List ref06_Cut × Int} (hy : y.1.length ≤ 5000) : law06_PlanRefutes_K2 F r l P y = some true := by
  rw [law06_PlanRefutes_K2, jobs_eq (by omega) (by omega), Option.bind_some, lcuts_eq (by omega) (by omega), Option.bind_some, Verify_eq (by omega), Option.bind_some, ref_Verify_eq (by omega), Option.bind_some, dj_jobs, cp_lcut, bifT (by rw [show pr (plan_Radar.mk r.Rays r.Turn r.Move r.Duty) = rr r from rfl]; exact beq_self_eq_true _), Option.bind_some, lcuts_eq (by omega) (by omega), Option.bind_some, Verify_eq (by omega), Option.bind_some, ref_Verify_eq (by omega), Option.bind_some, dj_jobs, cp_lcut, bifT (by rw [show pr (plan_Radar.mk r.Rays r.Turn r.Move r.Duty) = rr r from rfl]; exact beq_self_eq_true _), works_at (by omega), Option.bind_some]
theorem refutes_L3 {F : Nat} (hF : 6000 ≤ F) (r : ref06_Radar) (l : List ref06_Job) (hl : l.length ≤ 10) {P : List ref06_Cut} (hP : P.length ≤ 5010) {cs : List CutD} (hcs : cs.length ≤ 5000) (hb : ∀ c ∈ cs, c.1.length ≤ 8) (e e' : Int) :
    ∀ n k : Nat, k ≤ cs.length → cs.length < n + k → law06_PlanRefutes_L3 F r l P (cs.map pcut, e) (cs.map rcut, e') n (k : Int) = some true := by
  intro n
  induction n with
  | zero => intro k h1 h2; omega
  | succ n ih =>
    intro k hk0 hk
    rw [law06_PlanRefutes_L3, law06_PlanRefutes_B3]
    show (bif decide ((k : Int) < (((cs.map pcut).length : Nat) : Int)) then _ else _) = _
    by_cases hc : k < cs.length
    · have gp : getI (cs.map pcut) (k : Int) = some (pcut cs[k]) := by
        rw [getI, if_pos (by simp), Int.toNat_natCast, List.getElem?_map, List.getElem?_eq_getElem hc]; rfl
      have gr : getI (cs.map rcut) (k : Int) = some (rcut cs[k]) := by
        rw [getI, if_pos (by simp), Int.toNat_natCast, List.getElem?_map, List.getElem?_eq_getElem hc]; rfl
      have hbk := hb cs[k] (List.getElem_mem hc)
      have hne : ((pcut cs[k]).Late != (rcut cs[k]).Late) = false := bne_self_eq_false' _
      have hnum : law06_numbers F (pcut cs[k]).Begin (rcut cs[k]).Begin = some true := numbers_self (a := cs[k].1) (by omega) (by omega)
      rw [bifT (by simp; omega), gp, Option.bind_some, gr, Option.bind_some, hne, cond_false, Option.bind_some, Option.bind_some, hnum, Option.bind_some, cond_false, Bool.not_true, cond_false, ckb (by omega), show (k : Int) + 1 = ((k + 1 : Nat) : Int) by omega]
      exact ih (k + 1) (by omega) (by omega)
    · rw [bifF (by simp; omega)]
      exact refutes_K2 hF r l hl hP (by simp; omega)
theorem refutes_L4 {F : Nat} (hF : 2000000 ≤ F) (r : ref06_Radar) (l : List ref06_Job) (hl : l.length ≤ 10) (most : Int) {P : List ref06_Cut} (hP : P.length ≤ 5010) :
    ∀ n k : Nat, k ≤ P.length → P.length < n + k → law06_PlanRefutes_L4 F r l most P n (k : Int) = some true := by
  intro n
  induction n with
  | zero => intro k h1 h2; omega
  | succ n ih =>
    intro k hk0 hk
    rw [law06_PlanRefutes_L4, law06_PlanRefutes_B4]
    by_cases hc : k < P.length
    · have gk : getI P (k : Int) = some P[k] := by
        rw [getI, if_pos (by omega), Int.toNat_natCast]; exact List.getElem?_eq_getElem hc
      rw [bifT (by simp; omega), gk, Option.bind_some]
      by_cases h20 : ((P[k].Begin.length : Nat) : Int) > 20
      · rw [bifT (decide_eq_true h20), works_at (by omega), Option.bind_some]
      · rw [bifF (decide_eq_false h20), ckb (by omega), show (k : Int) + 1 = ((k + 1 : Nat) : Int) by omega]
        exact ih (k + 1) (by omega) (by omega)
    · rw [bifF (by simp; omega), law06_PlanRefutes_K1, jobs_eq (by omega) (by omega), Option.bind_some, Refute_eq (by omega), Option.bind_some, ref_Refute_eq hF, Option.bind_some, dj_jobs, show pr (plan_Radar.mk r.Rays r.Turn r.Move r.Duty) = rr r from rfl]
      have h5 := refuteR_len (rr r) (ej l) most
      have hb := refuteR_begin (rr r) (ej l) most
      have hL := refutes_L3 (F := F) (by omega) r l hl hP h5 hb (refuteR (rr r) (ej l) most).2 (refuteR (rr r) (ej l) most).2 F 0 (by omega) (by omega)
      have hcond : (bif (((((refuteR (rr r) (ej l) most).1.map pcut).length : Nat) : Int) != ((((refuteR (rr r) (ej l) most).1.map rcut).length : Nat) : Int)) then true else ((refuteR (rr r) (ej l) most).2 != (refuteR (rr r) (ej l) most).2)) = false := by
        rw [List.length_map, List.length_map, bne_self_eq_false', cond_false, bne_self_eq_false']
      show (bif (bif (((((refuteR (rr r) (ej l) most).1.map pcut).length : Nat) : Int) != ((((refuteR (rr r) (ej l) most).1.map rcut).length : Nat) : Int)) then true else ((refuteR (rr r) (ej l) most).2 != (refuteR (rr r) (ej l) most).2)) then _ else _) = _
      rw [hcond, cond_false]
      exact hL
theorem gdT' {α : Type} {g : Bool} {o : Option α} {d : α} (h : g = true) : gd g o d = o := by subst h; rfl
theorem gdF' {α : Type} {g : Bool} {o : Option α} {d : α} (h : g = false) : gd g o d = some d := by subst h; rfl
theorem PlanRefutes_eq {F : Nat} (hF : 2000000 ≤ F) (r : ref06_Radar) (l : List ref06_Job) (most : Int) (P : List ref06_Cut) : law06_PlanRefutes F r l most P = some true := by
  rw [law06_PlanRefutes]
  by_cases hl : ((l.length : Nat) : Int) > 10
  · rw [decide_eq_true hl, gdF' (by rfl), Option.bind_some, cond_true, cond_true, cond_true, cond_true, works_at (by omega), Option.bind_some]
  · obtain ⟨b, hb⟩ := few_some (F := F) (n := l.length) (by omega) (by omega) most
    rw [decide_eq_false hl, gdT' (by rfl), hb, Option.bind_some]
    by_cases hg : (bif (bif (bif false then true else (!b)) then true else (bif (decide (((P.length : Nat) : Int) > 300)) then (decide (((P.length : Nat) : Int) ≤ 5000)) else false)) then true else (decide (((P.length : Nat) : Int) > 5010))) = true
    · rw [hg, cond_true, works_at (by omega), Option.bind_some]
    · have hP : P.length ≤ 5010 := by
        rcases Nat.lt_or_ge 5010 P.length with h | h
        · exfalso
          apply hg
          rw [decide_eq_true (show ((P.length : Nat) : Int) > 5010 by omega)]
          cases (bif (bif false then true else (!b)) then true else (bif (decide (((P.length : Nat) : Int) > 300)) then (decide (((P.length : Nat) : Int) ≤ 5000)) else false)) <;> rfl
        · exact h
      rw [Bool.not_eq_true] at hg
      rw [hg, cond_false]
      exact refutes_L4 hF r l (by omega) most hP F 0 (by omega) (by omega)
end Go.Proofs.Ytejffembnkojjaa
