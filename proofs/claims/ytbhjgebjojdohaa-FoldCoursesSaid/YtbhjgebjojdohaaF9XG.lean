/- Chapter 3, plain: trains, echoes and speeds of the program are those of the document. -/
import Derived.Test.YtbhjgebjojdohaaF9XD
namespace Go.Proofs.Ytbhjgebjojdohaa
open Go Go.RowKit Go.Eng
set_option maxRecDepth 10000
set_option linter.unusedVariables false
set_option linter.unusedSimpArgs false
theorem ckb {β : Type} {x : Int} {f : Int → Option β} (h : -9000000000000000000 ≤ x ∧ x ≤ 9000000000000000000) : (ck x).bind f = f x := by
  unfold ck; rw [if_pos (by omega)]; rfl
theorem ck1 {x : Int} (h : -9000000000000000000 ≤ x ∧ x ≤ 9000000000000000000) : ck x = some x := by
  unfold ck; rw [if_pos (by omega)]
theorem gdT {α : Type} {g : Bool} {o : Option α} {d : α} (h : g = true) : gd g o d = o := by subst h; rfl
theorem gdF {α : Type} {g : Bool} {o : Option α} {d : α} (h : g = false) : gd g o d = some d := by subst h; rfl
theorem bifT {α : Type} {c : Bool} {x y : α} (h : c = true) : (bif c then x else y) = x := by rw [h]; rfl
theorem bifF {α : Type} {c : Bool} {x y : α} (h : c = false) : (bif c then x else y) = y := by rw [h]; rfl
theorem sb {α β : Type} {x : α} {f : α → Option β} : (some x).bind f = f x := rfl
theorem getb {α β : Type} {l : List α} {i : Int} {f : α → Option β} (d : α) (h : 0 ≤ i ∧ i < l.length) : (getI l i).bind f = f (l.getD i.toNat d) := by
  unfold getI
  rw [if_pos h.1, List.getElem?_eq_getElem (by omega), List.getD_eq_getElem?_getD, List.getElem?_eq_getElem (by omega)]
  rfl
theorem apdb {α β : Type} {l k : List α} {B : Nat} {f : List α → Option β} (h : (l.length + k.length) * B ≤ 140737488355328 ∧ l.length + k.length ≤ 9223372036854775807) : (apd B l k).bind f = f (l ++ k) := by
  unfold apd
  rw [if_pos h]
  rfl
/-! ### Quotients -/
end Go.Proofs.Ytbhjgebjojdohaa
/- Chapter 3, plain: times and speeds. -/
namespace Go.Proofs.Ytbhjgebjojdohaa
open Go Go.RowKit Go.Eng
set_option maxRecDepth 10000
set_option linter.unusedVariables false
set_option linter.unusedSimpArgs false
def us (t : ref02_Train) (w : Int) : Int := if w = 0 then t.First else t.Second
/-- The speeds of a step, after whole turns. -/
def spd (t : ref02_Train) (w : Int) (s : api_Span) (k : Int) : api_Span :=
  ⟨500 * t.Lambda * (s.Lo + k * 65536) / (65536 * us t w), -(-(500 * t.Lambda * (s.Hi + k * 65536)) / (65536 * us t w))⟩
/-! ### Within a bound -/
def comm (a b : api_Span) : api_Span := ⟨if b.Lo > a.Lo then b.Lo else a.Lo, if b.Hi < a.Hi then b.Hi else a.Hi⟩
theorem fold_common_eq (a b : api_Span) : fold_common a b = (comm a b, decide ((comm a b).Lo ≤ (comm a b).Hi)) := rfl
theorem ref_common_eq (a b : api_Span) : ref03_common a b = (comm a b, decide ((comm a b).Lo ≤ (comm a b).Hi)) := rfl
def stepOf (x : api_Echo) (w : Int) : api_Span := if w = 0 then x.Steps.1 else x.Steps.2
/-- The speeds of an echo for a time and whole turns, within a bound. -/
def spw (t : ref02_Train) (x : api_Echo) (m : Int) (w k : Int) : api_Span := comm (spd t w (stepOf x w) k) ⟨-m, m⟩
def isw (t : ref02_Train) (x : api_Echo) (m : Int) (w k : Int) : Bool := decide ((spw t x m w k).Lo ≤ (spw t x m w k).Hi)
end Go.Proofs.Ytbhjgebjojdohaa
/- Chapter 3, plain: the options of an echo. -/
namespace Go.Proofs.Ytbhjgebjojdohaa
open Go Go.RowKit Go.Eng
set_option maxRecDepth 10000
set_option linter.unusedVariables false
set_option linter.unusedSimpArgs false
section
variable {t : ref02_Train} {x : api_Echo} {m w : Int}
end
end Go.Proofs.Ytbhjgebjojdohaa
/- Chapter 3, plain: the guesses of the program and those of the document. -/
namespace Go.Proofs.Ytbhjgebjojdohaa
open Go Go.RowKit Go.Eng
set_option maxRecDepth 10000
set_option linter.unusedVariables false
set_option linter.unusedSimpArgs false
def nonempty (s : api_Span) : Bool := decide (s.Lo ≤ s.Hi)
theorem drop_cons {α : Type} {l : List α} {i : Nat} (h : i < l.length) (d : α) : l.drop i = l.getD i d :: l.drop (i + 1) := by
  rw [List.drop_eq_getElem_cons h, List.getD_eq_getElem?_getD, List.getElem?_eq_getElem h]; rfl
/-! ### The program's loops -/
/-! ### The document's loops -/
section
variable {t : ref02_Train} {x : api_Echo} {m : Int}
end
end Go.Proofs.Ytbhjgebjojdohaa
/- Chapter 3, plain: the law FoldGuesses. -/
namespace Go.Proofs.Ytbhjgebjojdohaa
open Go Go.RowKit Go.Eng
set_option maxRecDepth 10000
set_option linter.unusedVariables false
set_option linter.unusedSimpArgs false
def conv (g : fold_Guess) : ref03_Guess := ⟨g.Whole, g.Speed⟩
section
variable {t : ref02_Train} {x : api_Echo} {m : Int}
def badW (t : ref02_Train) (x : api_Echo) (m w : Int) : Prop := isw t x m w (-64) = true ∨ isw t x m w 64 = true
instance (w : Int) : Decidable (badW t x m w) := by unfold badW; infer_instance
end
end Go.Proofs.Ytbhjgebjojdohaa
/- Chapter 3, plain: the law FoldUnions. -/
namespace Go.Proofs.Ytbhjgebjojdohaa
open Go Go.RowKit Go.Eng
set_option maxRecDepth 10000
set_option linter.unusedVariables false
set_option linter.unusedSimpArgs false
/-! ### Sorting -/
theorem sort_span (F : Nat) (l : List api_Span) (hb : ∀ s ∈ l, spB s) (hl : l.length < 4611686018427387904) : ∃ l', slices_SortFunc100 F l = some l' ∧ l'.Perm l ∧ l'.Pairwise (fun x y => x.Lo ≤ y.Lo) := by
  unfold slices_SortFunc100
  rw [dif_pos ⟨hb, hl⟩]
  have hlt : ∀ x y : {s : api_Span // spB s}, Go.Proofs.ltOf spCmp x y = decide (x.val.Lo < y.val.Lo) := by
    intro x y
    unfold Go.Proofs.ltOf spCmp
    congr 1
    simp only [eq_iff_iff]
    omega
  have hO : Go.Sort.SWO (Go.Proofs.ltOf spCmp) := by
    constructor
    · intro x; rw [hlt]; simp
    · intro x y z h1 h2; rw [hlt] at *; simp at *; omega
    · intro x y z h1 h2; rw [hlt] at *; simp at *; omega
  obtain ⟨_, h2, h3⟩ := sortL_facts spCmp hO (l.pmap Subtype.mk hb)
  refine ⟨_, rfl, ?_, ?_⟩
  · have := h2.map Subtype.val
    refine this.trans ?_
    rw [List.map_pmap]
    simp
  · rw [List.pairwise_map]
    refine h3.imp ?_
    intro x y h
    rw [hlt] at h
    simpa using h
/-! ### What is merged -/
def mg : api_Span → List api_Span → List api_Span
  | c, [] => [c]
  | c, x :: xs => if x.Lo ≤ c.Hi then mg ⟨c.Lo, if x.Hi > c.Hi then x.Hi else c.Hi⟩ xs else c :: mg x xs
def mergeL : List api_Span → List api_Span
  | [] => []
  | x :: xs => mg x xs
def closed (l : List api_Span) (H : Int) : Prop := ∀ x ∈ l, x.Lo ≤ H → x.Hi ≤ H
theorem mg_head : ∀ (xs : List api_Span) (c : api_Span), xs.Pairwise (fun x y => x.Lo ≤ y.Lo) → ∃ H, mg c xs = ⟨c.Lo, H⟩ :: mergeL (xs.filter (fun x => decide (x.Lo > H))) ∧ c.Hi ≤ H ∧ closed xs H ∧ ∀ K, c.Hi ≤ K → closed xs K → H ≤ K := by
  intro xs
  induction xs with
  | nil => intro c _; exact ⟨c.Hi, rfl, Int.le_refl _, (fun x hx => by cases hx), fun K h _ => h⟩
  | cons x xs ih =>
    intro c hs
    rw [List.pairwise_cons] at hs
    by_cases h : x.Lo ≤ c.Hi
    · obtain ⟨H, h1, h2, h3, h4⟩ := ih ⟨c.Lo, if x.Hi > c.Hi then x.Hi else c.Hi⟩ hs.2
      have hc : c.Hi ≤ H ∧ x.Hi ≤ H := by simp only at h2; split at h2 <;> omega
      refine ⟨H, ?_, hc.1, ?_, ?_⟩
      · unfold mg
        rw [if_pos h, h1, List.filter_cons_of_neg (by simp; omega)]
      · intro y hy hyl
        rcases List.mem_cons.1 hy with rfl | hy
        · exact hc.2
        · exact h3 y hy hyl
      · intro K hK hcl
        have := hcl x (by simp) (by omega)
        exact h4 K (by simp only; split <;> omega) (fun y hy => hcl y (by simp [hy]))
    · refine ⟨c.Hi, ?_, Int.le_refl _, ?_, fun K h _ => h⟩
      · have hall : (x :: xs).filter (fun x => decide (x.Lo > c.Hi)) = x :: xs := by
          rw [List.filter_eq_self]
          intro y hy
          rcases List.mem_cons.1 hy with rfl | hy
          · simp; omega
          · have := hs.1 y hy; simp; omega
        rw [hall]
        unfold mg
        rw [if_neg h]
        rfl
      · intro y hy hyl
        rcases List.mem_cons.1 hy with rfl | hy
        · omega
        · have := hs.1 y hy; omega
/-! ### The program's union -/
theorem united_loop (y : List api_Span) : ∀ (n N i : Nat) (pre : List api_Span) (c : api_Span), i + n = y.length → n < N → pre.length + n ≤ 8000000000000 → y.length ≤ 8000000000000 →
    fold_speeds_united_L2 y N (i : Int) (pre ++ [c]) = some (pre ++ mg c (y.drop i)) := by
  intro n
  induction n with
  | zero =>
    intro N i pre c hi hN hp hi2
    obtain ⟨N, rfl⟩ : ∃ N', N = N' + 1 := ⟨N - 1, by omega⟩
    show fold_speeds_united_B2 y (fold_speeds_united_L2 y N) (i : Int) (pre ++ [c]) = _
    unfold fold_speeds_united_B2
    rw [bifF (by simp; omega), List.drop_eq_nil_of_le (by omega)]
    rfl
  | succ n ih =>
    intro N i pre c hi hN hp hi2
    obtain ⟨N, rfl⟩ : ∃ N', N = N' + 1 := ⟨N - 1, by omega⟩
    show fold_speeds_united_B2 y (fold_speeds_united_L2 y N) (i : Int) (pre ++ [c]) = _
    unfold fold_speeds_united_B2
    rw [drop_cons (i := i) (by omega) default]
    rw [bifT (by simp; omega), getb default (by omega), Int.toNat_natCast]
    generalize y.getD i default = x
    have hlen : (pre ++ [c]).length = pre.length + 1 := by simp
    have hpos : decide ((((pre ++ [c]).length : Nat) : Int) > 0) = true := by rw [hlen]; simp
    have hidx : ((((pre ++ [c]).length : Nat) : Int) - 1) = (pre.length : Nat) := by rw [hlen]; omega
    have hget : (pre ++ [c]).getD pre.length default = c := by simp [List.getD_eq_getElem?_getD]
    simp only [hpos]
    rw [gdT (g := true == true && true) rfl, ckb (by rw [hlen]; omega), gdT (g := true == true && true) rfl, hidx, getb default (by rw [hlen]; omega), Int.toNat_natCast, hget]
    unfold fold_speeds_united_K3
    have hck : ∀ (l : List api_Span), (ck ((i : Int) + 1)).bind (fun x179 => fold_speeds_united_L2 y N x179 l) = fold_speeds_united_L2 y N (((i + 1 : Nat) : Int)) l := fun l => by rw [ckb (by omega), Int.natCast_add]; rfl
    by_cases h : x.Lo ≤ c.Hi
    · refine Eq.trans (bifT (by simpa using h)) ?_
      rw [ckb (by omega), ckb (by omega), getb default (by rw [hlen]; omega), getb default (by rw [hlen]; omega), Int.toNat_natCast, hget]
      unfold setI
      rw [if_pos (by rw [hlen]; omega), sb, Int.toNat_natCast, hck]
      have hset : (pre ++ [c]).set pre.length ⟨c.Lo, if x.Hi > c.Hi then x.Hi else c.Hi⟩ = pre ++ [⟨c.Lo, if x.Hi > c.Hi then x.Hi else c.Hi⟩] := by simp
      rw [hset, ih N (i + 1) _ _ (by omega) (by omega) (by omega) (by omega)]
      conv => rhs; unfold mg
      rw [if_pos h]
    · refine Eq.trans (bifF (by simpa using h)) ?_
      rw [apdb (by rw [hlen]; simp; omega), hck, ih N (i + 1) (pre ++ [c]) x (by omega) (by omega) (by rw [hlen]; omega) (by omega)]
      conv => rhs; unfold mg
      rw [if_neg h]
      simp
theorem united_sorted (F : Nat) (y : List api_Span) (hy : y.length < F) (hl : y.length ≤ 1000000000000) : fold_speeds_united_L2 y F 0 [] = some (mergeL y) := by
  obtain ⟨N, rfl⟩ : ∃ N', F = N' + 1 := ⟨F - 1, by omega⟩
  show fold_speeds_united_B2 y (fold_speeds_united_L2 y N) 0 [] = _
  unfold fold_speeds_united_B2
  cases y with
  | nil => rfl
  | cons x xs =>
    have hpos : decide (((([] : List api_Span).length : Nat) : Int) > 0) = false := rfl
    rw [bifT (by simp), getb default (by simp)]
    simp only [hpos]
    rw [gdF (g := false == true && true) rfl, sb, gdF (g := false == true && true) rfl, sb]
    refine Eq.trans (bifF rfl) ?_
    rw [apdb (by simp)]
    unfold fold_speeds_united_K3
    rw [ckb (by omega)]
    have := united_loop (x :: xs) xs.length N 1 [] x (by simp; omega) (by simp at hy; omega) (by simp at hl ⊢; omega) (by omega)
    exact this
theorem united_eq (F : Nat) (l : List api_Span) (hF : l.length < F) (hl : l.length ≤ 1000000000000) (hb : ∀ s ∈ l, spB s) : ∃ l', fold_speeds_united F l = some (mergeL l') ∧ l'.Perm l ∧ l'.Pairwise (fun x y => x.Lo ≤ y.Lo) := by
  obtain ⟨l', h1, h2, h3⟩ := sort_span F l hb (by omega)
  refine ⟨l', ?_, h2, h3⟩
  unfold fold_speeds_united slices_Clone_fold_speeds_api_Span
  have hlen := h2.length_eq
  rw [apdb (by simp; omega), sb, List.nil_append, h1, sb, united_sorted F l' (by omega) (by omega)]
/-! ### The document's union -/
section
variable {out left : List api_Span} {k2 : List api_Span → List api_Span → Option (List api_Span)}
theorem filter_loop (hl : left.length ≤ 1000000000000) (ho : out.length ≤ 1000000000000) (m H : Int) : ∀ (n N i : Nat) (acc : List api_Span), i + n = left.length → n < N → acc.length + n ≤ 8000000000000 →
    ref03_united_L6 out left k2 m H N (i : Int) acc = k2 (out ++ [⟨m, H⟩]) (acc ++ (left.drop i).filter (fun x => decide (x.Lo > H))) := by
  intro n
  induction n with
  | zero =>
    intro N i acc hi hN ha
    obtain ⟨N, rfl⟩ : ∃ N', N = N' + 1 := ⟨N - 1, by omega⟩
    show ref03_united_B6 out left k2 m H (ref03_united_L6 out left k2 m H N) (i : Int) acc = _
    unfold ref03_united_B6
    rw [bifF (by simp; omega), List.drop_eq_nil_of_le (by omega)]
    unfold ref03_united_K5
    rw [apdb (by simp; omega)]
    simp
  | succ n ih =>
    intro N i acc hi hN ha
    obtain ⟨N, rfl⟩ : ∃ N', N = N' + 1 := ⟨N - 1, by omega⟩
    show ref03_united_B6 out left k2 m H (ref03_united_L6 out left k2 m H N) (i : Int) acc = _
    unfold ref03_united_B6
    rw [drop_cons (i := i) (by omega) default]
    rw [bifT (by simp; omega), getb default (by omega), getb default (by omega), Int.toNat_natCast]
    generalize left.getD i default = x
    unfold ref03_united_K7
    have hck : ∀ (l : List api_Span), (ck ((i : Int) + 1)).bind (fun x2455 => ref03_united_L6 out left k2 m H N x2455 l) = ref03_united_L6 out left k2 m H N (((i + 1 : Nat) : Int)) l := fun l => by rw [ckb (by omega), Int.natCast_add]; rfl
    by_cases h : x.Lo > H
    · rw [bifT (by simpa using h), apdb (by simp; omega), hck, ih N (i + 1) _ (by omega) (by omega) (by simp; omega), List.filter_cons_of_pos (by simpa using h)]
      simp
    · rw [bifF (by simpa using h), hck, ih N (i + 1) _ (by omega) (by omega) (by omega), List.filter_cons_of_neg (by simpa using h)]
def pass : Int → Bool → List api_Span → Int × Bool
  | H, c, [] => (H, c)
  | H, c, x :: xs => if x.Lo ≤ H ∧ x.Hi > H then pass x.Hi true xs else pass H c xs
theorem pass_true : ∀ (xs : List api_Span) (H : Int), (pass H true xs).2 = true := by
  intro xs
  induction xs with
  | nil => intro H; rfl
  | cons x xs ih => intro H; unfold pass; split <;> exact ih _
theorem pass_le : ∀ (xs : List api_Span) (H : Int) (c : Bool), H ≤ (pass H c xs).1 := by
  intro xs
  induction xs with
  | nil => intro H c; exact Int.le_refl _
  | cons x xs ih =>
    intro H c
    unfold pass
    split
    · have := ih x.Hi true; omega
    · exact ih H c
theorem pass_min : ∀ (xs : List api_Span) (H : Int) (c : Bool) (K : Int), H ≤ K → closed xs K → (pass H c xs).1 ≤ K := by
  intro xs
  induction xs with
  | nil => intro H c K h _; exact h
  | cons x xs ih =>
    intro H c K h hc
    unfold pass
    split
    · rename_i hx
      exact ih _ _ K (hc x (by simp) (by omega)) (fun y hy => hc y (by simp [hy]))
    · exact ih _ _ K h (fun y hy => hc y (by simp [hy]))
theorem pass_false : ∀ (xs : List api_Span) (H : Int), (pass H false xs).2 = false → (pass H false xs).1 = H ∧ closed xs H := by
  intro xs
  induction xs with
  | nil => intro H _; exact ⟨rfl, fun x hx => by cases hx⟩
  | cons x xs ih =>
    intro H h
    unfold pass at h ⊢
    split
    · rename_i hx
      rw [if_pos hx, pass_true] at h
      cases h
    · rename_i hx
      rw [if_neg hx] at h
      obtain ⟨h1, h2⟩ := ih H h
      refine ⟨h1, ?_⟩
      intro y hy hyl
      rcases List.mem_cons.1 hy with rfl | hy
      · omega
      · exact h2 y hy hyl
theorem pass_grow : ∀ (xs : List api_Span) (H : Int) (c : Bool), (pass H c xs).1 = H ∨ (H < (pass H c xs).1 ∧ ∃ x ∈ xs, x.Hi = (pass H c xs).1) := by
  intro xs
  induction xs with
  | nil => intro H c; exact .inl rfl
  | cons x xs ih =>
    intro H c
    unfold pass
    split
    · rename_i hx
      rcases ih x.Hi true with h | ⟨h, y, hy, hyh⟩
      · rw [h]; exact .inr ⟨by omega, x, by simp, rfl⟩
      · exact .inr ⟨by omega, y, by simp [hy], hyh⟩
    · rcases ih H c with h | ⟨h, y, hy, hyh⟩
      · exact .inl h
      · exact .inr ⟨h, y, by simp [hy], hyh⟩
theorem pass_same : ∀ (xs : List api_Span) (H : Int), (pass H false xs).1 = H → (pass H false xs).2 = false := by
  intro xs
  induction xs with
  | nil => intro H _; rfl
  | cons x xs ih =>
    intro H h
    unfold pass at h ⊢
    split
    · rename_i hx
      rw [if_pos hx] at h
      have := pass_le xs x.Hi true
      omega
    · rename_i hx
      rw [if_neg hx] at h
      exact ih H h
theorem scan_loop (hl : left.length ≤ 1000000000000) (k8 : Int → Bool → Option (List api_Span)) : ∀ (n N i : Nat) (H : Int) (c : Bool), i + n = left.length → n < N →
    ref03_united_L9 left k8 N H c (i : Int) = k8 (pass H c (left.drop i)).1 (pass H c (left.drop i)).2 := by
  intro n
  induction n with
  | zero =>
    intro N i H c hi hN
    obtain ⟨N, rfl⟩ : ∃ N', N = N' + 1 := ⟨N - 1, by omega⟩
    show ref03_united_B9 left k8 (ref03_united_L9 left k8 N) H c (i : Int) = _
    unfold ref03_united_B9
    rw [bifF (by simp; omega), List.drop_eq_nil_of_le (by omega)]
    rfl
  | succ n ih =>
    intro N i H c hi hN
    obtain ⟨N, rfl⟩ : ∃ N', N = N' + 1 := ⟨N - 1, by omega⟩
    show ref03_united_B9 left k8 (ref03_united_L9 left k8 N) H c (i : Int) = _
    unfold ref03_united_B9
    rw [drop_cons (i := i) (by omega) default]
    rw [bifT (by simp; omega), getb default (by omega), Int.toNat_natCast]
    have hgb : ∀ {β : Type} (f : api_Span → Option β), (getI left (i : Int)).bind f = f (left.getD i default) := fun f => by rw [getb default (by omega), Int.toNat_natCast]
    obtain ⟨x, hx⟩ : ∃ x, left.getD i default = x := ⟨_, rfl⟩
    rw [hx] at hgb ⊢
    unfold ref03_united_K10
    have hck : ∀ (H : Int) (c : Bool), (ck ((i : Int) + 1)).bind (fun x2575 => ref03_united_L9 left k8 N H c x2575) = ref03_united_L9 left k8 N H c (((i + 1 : Nat) : Int)) := fun H c => by rw [ckb (by omega), Int.natCast_add]; rfl
    by_cases h1 : x.Lo ≤ H
    · have e1 : decide (x.Lo ≤ H) = true := by simpa using h1
      rw [e1, gdT (g := true == true && true) rfl, hgb]
      by_cases h2 : x.Hi > H
      · rw [bifT (by simpa using h2), hgb, hck, ih N (i + 1) _ _ (by omega) (by omega)]
        conv => rhs; unfold pass
        rw [if_pos ⟨h1, h2⟩]
      · rw [bifF (by simpa using h2), hck, ih N (i + 1) _ _ (by omega) (by omega)]
        conv => rhs; unfold pass
        rw [if_neg (by omega)]
    · have e1 : decide (x.Lo ≤ H) = false := by simpa using h1
      rw [e1, gdF (g := false == true && true) rfl, sb]
      refine Eq.trans (bifF rfl) ?_
      rw [hck, ih N (i + 1) _ _ (by omega) (by omega)]
      conv => rhs; unfold pass
      rw [if_neg (by omega)]
theorem grow_loop (F : Nat) (hF : left.length < F) (hl : left.length ≤ 1000000000000) (m : Int) : ∀ (q N : Nat) (H : Int), (left.filter (fun x => decide (x.Hi > H))).length ≤ q → q + 2 ≤ N →
    ∃ H', ref03_united_L8 F out left k2 m N H true = ref03_united_K4 F out left k2 m H' ∧ H ≤ H' ∧ closed left H' ∧ ∀ K, H ≤ K → closed left K → H' ≤ K := by
  intro q
  induction q with
  | zero =>
    intro N H hq hN
    obtain ⟨N, rfl⟩ : ∃ N', N = N' + 2 := ⟨N - 2, by omega⟩
    have hs := scan_loop (left := left) hl (ref03_united_L8 F out left k2 m (N + 1)) left.length F 0 H false (by omega) hF
    rw [List.drop_zero] at hs
    have hno : (pass H false left).1 = H := by
      rcases pass_grow left H false with h | ⟨h, x, hx, hxh⟩
      · exact h
      · have : x ∈ left.filter (fun x => decide (x.Hi > H)) := List.mem_filter.2 ⟨hx, by simp; omega⟩
        have := List.length_pos_of_mem this
        omega
    have h2 := pass_same left H hno
    rw [hno, h2] at hs
    refine ⟨H, ?_, Int.le_refl _, (pass_false left H h2).2, fun K h _ => h⟩
    show ref03_united_B8 F out left k2 m (ref03_united_L8 F out left k2 m (N + 1)) H true = _
    unfold ref03_united_B8
    refine Eq.trans (bifT rfl) (Eq.trans hs ?_)
    rfl
  | succ q ih =>
    intro N H hq hN
    obtain ⟨N, rfl⟩ : ∃ N', N = N' + 2 := ⟨N - 2, by omega⟩
    have hs := scan_loop (left := left) hl (ref03_united_L8 F out left k2 m (N + 1)) left.length F 0 H false (by omega) hF
    rw [List.drop_zero] at hs
    cases h2 : (pass H false left).2 with
    | false =>
      obtain ⟨h3, h4⟩ := pass_false left H h2
      rw [h3, h2] at hs
      refine ⟨H, ?_, Int.le_refl _, h4, fun K h _ => h⟩
      show ref03_united_B8 F out left k2 m (ref03_united_L8 F out left k2 m (N + 1)) H true = _
      unfold ref03_united_B8
      refine Eq.trans (bifT rfl) (Eq.trans hs ?_)
      rfl
    | true =>
      rw [h2] at hs
      have hne : (pass H false left).1 ≠ H := fun h => by rw [pass_same left H h] at h2; cases h2
      rcases pass_grow left H false with h | ⟨h, x, hx, hxh⟩
      · exact absurd h hne
      have hlt : (left.filter (fun x => decide (x.Hi > (pass H false left).1))).length < (left.filter (fun x => decide (x.Hi > H))).length := by
        have e : left.filter (fun x => decide (x.Hi > (pass H false left).1)) = (left.filter (fun x => decide (x.Hi > H))).filter (fun x => decide (x.Hi > (pass H false left).1)) := by
          rw [List.filter_filter]
          apply List.filter_congr
          intro y _
          simp
          omega
        rw [e]
        apply List.length_filter_lt_length_iff_exists.2
        exact ⟨x, List.mem_filter.2 ⟨hx, by simp; omega⟩, by simp; omega⟩
      obtain ⟨H', e1, e2, e3, e4⟩ := ih (N + 1) (pass H false left).1 (by omega) (by omega)
      refine ⟨H', ?_, by omega, e3, fun K hK hc => e4 K (pass_min left H false K hK hc) hc⟩
      show ref03_united_B8 F out left k2 m (ref03_united_L8 F out left k2 m (N + 1)) H true = _
      unfold ref03_united_B8
      exact Eq.trans (bifT rfl) (Eq.trans hs e1)
theorem min_loop (F : Nat) (hl : left.length ≤ 1000000000000) : ∀ (n N i : Nat) (m h : Int), i + n = left.length → n < N →
    ∃ m' h', ref03_united_L11 F out left k2 N m h (i : Int) = ref03_united_K3 F out left k2 m' h' ∧ m' ≤ m ∧ (∀ x ∈ left.drop i, m' ≤ x.Lo) ∧ ((m' = m ∧ h' = h) ∨ ∃ x ∈ left.drop i, x.Lo = m' ∧ x.Hi = h') := by
  intro n
  induction n with
  | zero =>
    intro N i m h hi hN
    obtain ⟨N, rfl⟩ : ∃ N', N = N' + 1 := ⟨N - 1, by omega⟩
    refine ⟨m, h, ?_, Int.le_refl _, ?_, .inl ⟨rfl, rfl⟩⟩
    · show ref03_united_B11 F out left k2 (ref03_united_L11 F out left k2 N) m h (i : Int) = _
      unfold ref03_united_B11
      rw [bifF (by simp; omega)]
    · rw [List.drop_eq_nil_of_le (by omega)]; intro x hx; cases hx
  | succ n ih =>
    intro N i m h hi hN
    obtain ⟨N, rfl⟩ : ∃ N', N = N' + 1 := ⟨N - 1, by omega⟩
    have hgb : ∀ {β : Type} (f : api_Span → Option β), (getI left (i : Int)).bind f = f (left.getD i default) := fun f => by rw [getb default (by omega), Int.toNat_natCast]
    rw [drop_cons (i := i) (by omega) default]
    obtain ⟨x, hx⟩ : ∃ x, left.getD i default = x := ⟨_, rfl⟩
    rw [hx] at hgb ⊢
    have hck : ∀ (a b : Int), (ck ((i : Int) + 1)).bind (fun x2608 => ref03_united_L11 F out left k2 N a b x2608) = ref03_united_L11 F out left k2 N a b (((i + 1 : Nat) : Int)) := fun a b => by rw [ckb (by omega), Int.natCast_add]; rfl
    by_cases hlt : x.Lo < m
    · obtain ⟨m', h', e1, e2, e3, e4⟩ := ih N (i + 1) x.Lo x.Hi (by omega) (by omega)
      refine ⟨m', h', ?_, by omega, ?_, ?_⟩
      · show ref03_united_B11 F out left k2 (ref03_united_L11 F out left k2 N) m h (i : Int) = _
        unfold ref03_united_B11 ref03_united_K12
        rw [bifT (by simp; omega), hgb, bifT (by simpa using hlt), hgb, hck, e1]
      · intro y hy
        rcases List.mem_cons.1 hy with rfl | hy
        · exact e2
        · exact e3 y hy
      · rcases e4 with ⟨rfl, rfl⟩ | ⟨y, hy, e⟩
        · exact .inr ⟨x, by simp, rfl, rfl⟩
        · exact .inr ⟨y, by simp [hy], e⟩
    · obtain ⟨m', h', e1, e2, e3, e4⟩ := ih N (i + 1) m h (by omega) (by omega)
      refine ⟨m', h', ?_, by omega, ?_, ?_⟩
      · show ref03_united_B11 F out left k2 (ref03_united_L11 F out left k2 N) m h (i : Int) = _
        unfold ref03_united_B11 ref03_united_K12
        rw [bifT (by simp; omega), hgb, bifF (by simpa using hlt), hck, e1]
      · intro y hy
        rcases List.mem_cons.1 hy with rfl | hy
        · omega
        · exact e3 y hy
      · rcases e4 with h | ⟨y, hy, e⟩
        · exact .inl h
        · exact .inr ⟨y, by simp [hy], e⟩
end
theorem outer_loop (F : Nat) : ∀ (n N : Nat) (out left σ : List api_Span), left.length ≤ n → n < N → n + 3 ≤ F → n ≤ 1000000000000 → out.length + n ≤ 1000000000000 → σ.Perm left → σ.Pairwise (fun x y => x.Lo ≤ y.Lo) → (∀ x ∈ left, x.Lo ≤ x.Hi) →
    ref03_united_L2 F N out left = some (out ++ mergeL σ) := by
  intro n
  induction n with
  | zero =>
    intro N out left σ hl hN hF hn ho hp hs hv
    obtain ⟨N, rfl⟩ : ∃ N', N = N' + 1 := ⟨N - 1, by omega⟩
    have : left = [] := List.length_eq_zero_iff.1 (by omega)
    subst this
    have : σ = [] := List.Perm.eq_nil hp
    subst this
    show ref03_united_B2 F (ref03_united_L2 F N) out [] = _
    simp [ref03_united_B2, ref03_united_K1, mergeL]
  | succ n ih =>
    intro N out left σ hl hN hF hn ho hp hs hv
    obtain ⟨N, rfl⟩ : ∃ N', N = N' + 1 := ⟨N - 1, by omega⟩
    show ref03_united_B2 F (ref03_united_L2 F N) out left = _
    unfold ref03_united_B2
    cases σ with
    | nil =>
      have : left = [] := List.Perm.eq_nil hp.symm
      subst this
      simp [ref03_united_K1, mergeL]
    | cons x1 xs =>
      have hlen := hp.length_eq
      simp at hlen
      rw [bifT (by simp; omega), getb default (by omega)]
      have hm0 : left.getD (0 : Int).toNat default ∈ left := by
        show left.getD 0 default ∈ left
        rw [List.getD_eq_getElem?_getD, List.getElem?_eq_getElem (by omega : 0 < left.length)]
        exact List.getElem_mem _
      generalize left.getD (0 : Int).toNat default = u at *
      obtain ⟨m, h, e1, e2, e3, e4⟩ := min_loop (out := out) (left := left) (k2 := ref03_united_L2 F N) F (by omega) left.length F 0 u.Lo u.Hi (by omega) (by omega)
      refine Eq.trans e1 ?_
      rw [List.drop_zero] at e3 e4
      -- the least one
      obtain ⟨s, hsl, hs1, hs2⟩ : ∃ s ∈ left, s.Lo = m ∧ s.Hi = h := by
        rcases e4 with ⟨rfl, rfl⟩ | ⟨y, hy, e⟩
        · exact ⟨u, hm0, rfl, rfl⟩
        · exact ⟨y, hy, e⟩
      rw [List.pairwise_cons] at hs
      have hx1 : x1 ∈ left := hp.mem_iff.1 (by simp)
      have hmx : m = x1.Lo := by
        have h1 := e3 x1 hx1
        have h2 : s ∈ x1 :: xs := hp.mem_iff.2 hsl
        rcases List.mem_cons.1 h2 with rfl | h2
        · exact hs1.symm
        · have := hs.1 s h2; omega
      have hvs := hv s hsl
      have hvx := hv x1 hx1
      unfold ref03_united_K3
      obtain ⟨H, g1, g2, g3, g4⟩ := grow_loop (out := out) (left := left) (k2 := ref03_united_L2 F N) F (by omega) (by omega) m left.length F h (List.length_filter_le _ _) (by omega)
      rw [g1]
      unfold ref03_united_K4
      have hf := filter_loop (out := out) (left := left) (k2 := ref03_united_L2 F N) (by omega) (by omega) m H left.length F 0 [] (by omega) (by omega) (by simp; omega)
      refine Eq.trans hf ?_
      rw [List.drop_zero, List.nil_append]
      obtain ⟨H2, q1, q2, q3, q4⟩ := mg_head xs x1 hs.2
      have hc2 : closed left H2 := by
        intro y hy hyl
        rcases List.mem_cons.1 (hp.mem_iff.2 hy) with rfl | hy
        · exact q2
        · exact q3 y hy hyl
      have hHH : H = H2 := by
        apply Int.le_antisymm
        · exact g4 H2 (by have := hc2 s hsl (by omega); omega) hc2
        · exact q4 H (g3 x1 hx1 (by omega)) (fun y hy => g3 y (hp.mem_iff.1 (by simp [hy])))
      subst hHH
      have hfx : (x1 :: xs).filter (fun x => decide (x.Lo > H)) = xs.filter (fun x => decide (x.Lo > H)) := List.filter_cons_of_neg (by simp; omega)
      have hpf : (xs.filter (fun x => decide (x.Lo > H))).Perm (left.filter (fun x => decide (x.Lo > H))) := by
        rw [← hfx]; exact hp.filter _
      have hfl : (left.filter (fun x => decide (x.Lo > H))).length ≤ n := by
        have h1 := hpf.length_eq
        have h2 := List.length_filter_le (fun x : api_Span => decide (x.Lo > H)) xs
        omega
      rw [ih N _ _ _ hfl (by omega) (by omega) (by omega) (by simp; omega) hpf (hs.2.filter _) (fun x hx => hv x (List.mem_filter.1 hx).1)]
      show _ = some (out ++ mg x1 xs)
      rw [q1, hmx]
      simp
theorem ref_united_eq (F : Nat) (l σ : List api_Span) (hl : l.length ≤ 1000000000000) (hF : l.length + 3 < F) (hp : σ.Perm l) (hs : σ.Pairwise (fun x y => x.Lo ≤ y.Lo)) (hv : ∀ x ∈ l, x.Lo ≤ x.Hi) : ref03_united F l = some (mergeL σ) := by
  unfold ref03_united
  rw [apdb (by simp; omega), List.nil_append, outer_loop F l.length F [] l σ (Nat.le_refl _) (by omega) (by omega) (by omega) (by simp; omega) hp hs hv, List.nil_append]
/-! ### The checks -/
def okSp (s : api_Span) : Bool := decide (s.Lo ≤ s.Hi ∧ -200000 ≤ s.Lo ∧ s.Hi ≤ 200000)
theorem mg_len : ∀ (xs : List api_Span) (c : api_Span), (mg c xs).length ≤ xs.length + 1 := by
  intro xs
  induction xs with
  | nil => intro c; simp [mg]
  | cons x xs ih =>
    intro c
    unfold mg
    split
    · have := ih ⟨c.Lo, if x.Hi > c.Hi then x.Hi else c.Hi⟩; rw [List.length_cons]; omega
    · have := ih x; simp; omega
theorem mergeL_len (l : List api_Span) : (mergeL l).length ≤ l.length := by
  cases l with
  | nil => simp [mergeL]
  | cons x xs => exact mg_len xs x
end Go.Proofs.Ytbhjgebjojdohaa
/- Chapter 3, plain: sets of speeds by what they contain (in halves, so that spans that only touch are told apart). -/
namespace Go.Proofs.Ytbhjgebjojdohaa
open Go Go.RowKit Go.Eng
set_option maxRecDepth 10000
set_option linter.unusedVariables false
set_option linter.unusedSimpArgs false
def inS (z : Int) (s : api_Span) : Prop := 2 * s.Lo ≤ z ∧ z ≤ 2 * s.Hi
def mem (z : Int) (l : List api_Span) : Prop := ∃ s ∈ l, inS z s
def valid (l : List api_Span) : Prop := ∀ s ∈ l, s.Lo ≤ s.Hi
def Canon (l : List api_Span) : Prop := l.Pairwise (fun a b => a.Hi < b.Lo) ∧ valid l
theorem mem_nil (z : Int) : ¬ mem z [] := by rintro ⟨s, hs, _⟩; cases hs
theorem mem_cons {z : Int} {s : api_Span} {l : List api_Span} : mem z (s :: l) ↔ inS z s ∨ mem z l := by
  constructor
  · rintro ⟨t, ht, h⟩
    rcases List.mem_cons.1 ht with rfl | ht
    · exact .inl h
    · exact .inr ⟨t, ht, h⟩
  · rintro (h | ⟨t, ht, h⟩)
    · exact ⟨s, by simp, h⟩
    · exact ⟨t, by simp [ht], h⟩
theorem Canon.tail {s : api_Span} {l : List api_Span} (h : Canon (s :: l)) : Canon l := ⟨(List.pairwise_cons.1 h.1).2, fun t ht => h.2 t (by simp [ht])⟩
theorem Canon.beyond {s : api_Span} {l : List api_Span} (h : Canon (s :: l)) {z : Int} (hz : mem z l) : 2 * s.Hi + 2 ≤ z := by
  obtain ⟨t, ht, h1, _⟩ := hz
  have := (List.pairwise_cons.1 h.1).1 t ht
  omega
/-- A set has one form. -/
theorem canon_eq : ∀ {a b : List api_Span}, Canon a → Canon b → (∀ z, mem z a ↔ mem z b) → a = b := by
  intro a
  induction a with
  | nil =>
    intro b _ hb h
    cases b with
    | nil => rfl
    | cons t b =>
      have hv := hb.2 t (by simp)
      exact absurd ((h (2 * t.Lo)).2 (mem_cons.2 (.inl ⟨by omega, by omega⟩))) (mem_nil _)
  | cons s a ih =>
    intro b ha hb h
    have hs := ha.2 s (by simp)
    cases b with
    | nil => exact absurd ((h (2 * s.Lo)).1 (mem_cons.2 (.inl ⟨by omega, by omega⟩))) (mem_nil _)
    | cons t b =>
      have ht := hb.2 t (by simp)
      have e1 : s.Lo = t.Lo := by
        have h1 : 2 * t.Lo ≤ 2 * s.Lo := by
          rcases mem_cons.1 ((h (2 * s.Lo)).1 (mem_cons.2 (.inl ⟨by omega, by omega⟩))) with h1 | h1
          · exact h1.1
          · have := hb.beyond h1; omega
        have h2 : 2 * s.Lo ≤ 2 * t.Lo := by
          rcases mem_cons.1 ((h (2 * t.Lo)).2 (mem_cons.2 (.inl ⟨by omega, by omega⟩))) with h1 | h1
          · exact h1.1
          · have := ha.beyond h1; omega
        omega
      have e2 : s.Hi = t.Hi := by
        rcases Int.lt_trichotomy s.Hi t.Hi with hlt | hlt | hlt
        · rcases mem_cons.1 ((h (2 * s.Hi + 1)).2 (mem_cons.2 (.inl ⟨by omega, by omega⟩))) with h1 | h1
          · have := h1.2; omega
          · have := ha.beyond h1; omega
        · exact hlt
        · rcases mem_cons.1 ((h (2 * t.Hi + 1)).1 (mem_cons.2 (.inl ⟨by omega, by omega⟩))) with h1 | h1
          · have := h1.2; omega
          · have := hb.beyond h1; omega
      have e3 : s = t := by cases s; cases t; simp_all
      subst e3
      rw [ih ha.tail hb.tail]
      intro z
      constructor
      · intro hz
        have hb1 := ha.beyond hz
        rcases mem_cons.1 ((h z).1 (mem_cons.2 (.inr hz))) with h1 | h1
        · have := h1.2; omega
        · exact h1
      · intro hz
        have hb1 := hb.beyond hz
        rcases mem_cons.1 ((h z).2 (mem_cons.2 (.inr hz))) with h1 | h1
        · have := h1.2; omega
        · exact h1
/-! ### Merging -/
theorem mg_mem : ∀ (xs : List api_Span) (c : api_Span), c.Lo ≤ c.Hi → xs.Pairwise (fun x y => x.Lo ≤ y.Lo) → (∀ x ∈ xs, c.Lo ≤ x.Lo) → valid xs →
    (∀ z, mem z (mg c xs) ↔ inS z c ∨ mem z xs) ∧ Canon (mg c xs) ∧ ∀ s ∈ mg c xs, c.Lo ≤ s.Lo := by
  intro xs
  induction xs with
  | nil =>
    intro c hc _ _ _
    refine ⟨fun z => mem_cons, ⟨by simp [mg], fun s hs => ?_⟩, fun s hs => ?_⟩ <;> simp [mg] at hs <;> subst hs
    · exact hc
    · exact Int.le_refl _
  | cons x xs ih =>
    intro c hc hs hl hv
    have hx := hv x (by simp)
    have hcx := hl x (by simp)
    rw [List.pairwise_cons] at hs
    unfold mg
    by_cases h : x.Lo ≤ c.Hi
    · rw [if_pos h]
      obtain ⟨h1, h2, h3⟩ := ih ⟨c.Lo, if x.Hi > c.Hi then x.Hi else c.Hi⟩ (by simp only; split <;> omega) hs.2 (fun y hy => hl y (by simp [hy])) (fun y hy => hv y (by simp [hy]))
      refine ⟨fun z => ?_, h2, h3⟩
      rw [h1 z, mem_cons]
      have : inS z ⟨c.Lo, if x.Hi > c.Hi then x.Hi else c.Hi⟩ ↔ inS z c ∨ inS z x := by
        unfold inS
        simp only
        split <;> omega
      rw [this, or_assoc]
    · rw [if_neg h]
      obtain ⟨h1, h2, h3⟩ := ih x hx hs.2 hs.1 (fun y hy => hv y (by simp [hy]))
      refine ⟨fun z => ?_, ⟨List.pairwise_cons.2 ⟨fun y hy => ?_, h2.1⟩, fun s hs => ?_⟩, fun s hs => ?_⟩
      · rw [mem_cons, h1 z, mem_cons]
      · have := h3 y hy; omega
      · rcases List.mem_cons.1 hs with rfl | hs
        · exact hc
        · exact h2.2 s hs
      · rcases List.mem_cons.1 hs with rfl | hs
        · exact Int.le_refl _
        · have := h3 s hs; omega
theorem mergeL_mem {l : List api_Span} (hs : l.Pairwise (fun x y => x.Lo ≤ y.Lo)) (hv : valid l) : (∀ z, mem z (mergeL l) ↔ mem z l) ∧ Canon (mergeL l) := by
  cases l with
  | nil => exact ⟨fun z => Iff.rfl, ⟨List.Pairwise.nil, fun s hs => by cases hs⟩⟩
  | cons x xs =>
    rw [List.pairwise_cons] at hs
    obtain ⟨h1, h2, _⟩ := mg_mem xs x (hv x (by simp)) hs.2 hs.1 (fun y hy => hv y (by simp [hy]))
    exact ⟨fun z => (h1 z).trans mem_cons.symm, h2⟩
/-- The union of some spans. -/
def un (l : List api_Span) : List api_Span := mergeL (l.mergeSort (fun x y => decide (x.Lo ≤ y.Lo)))
theorem sorted_sort (l : List api_Span) : (l.mergeSort (fun x y => decide (x.Lo ≤ y.Lo))).Pairwise (fun x y => x.Lo ≤ y.Lo) := by
  have := List.pairwise_mergeSort (le := fun x y : api_Span => decide (x.Lo ≤ y.Lo)) (fun a b c h1 h2 => by simp at *; omega) (fun a b => by simp; omega) l
  exact this.imp (fun h => by simpa using h)
theorem perm_mem {a b : List api_Span} (h : a.Perm b) (z : Int) : mem z a ↔ mem z b := by
  constructor
  · rintro ⟨s, hs, hz⟩; exact ⟨s, h.mem_iff.1 hs, hz⟩
  · rintro ⟨s, hs, hz⟩; exact ⟨s, h.mem_iff.2 hs, hz⟩
theorem perm_valid {a b : List api_Span} (h : a.Perm b) (hv : valid b) : valid a := fun s hs => hv s (h.mem_iff.1 hs)
theorem un_mem {l : List api_Span} (hv : valid l) (z : Int) : mem z (un l) ↔ mem z l := by
  have hp := List.mergeSort_perm l (fun x y => decide (x.Lo ≤ y.Lo))
  exact ((mergeL_mem (sorted_sort l) (perm_valid hp hv)).1 z).trans (perm_mem hp z)
theorem un_canon {l : List api_Span} (hv : valid l) : Canon (un l) := (mergeL_mem (sorted_sort l) (perm_valid (List.mergeSort_perm l _) hv)).2
/-- However it is sorted. -/
theorem un_sorted {l σ : List api_Span} (hp : σ.Perm l) (hs : σ.Pairwise (fun x y => x.Lo ≤ y.Lo)) (hv : valid l) : mergeL σ = un l := by
  obtain ⟨h1, h2⟩ := mergeL_mem hs (perm_valid hp hv)
  exact canon_eq h2 (un_canon hv) fun z => (h1 z).trans ((perm_mem hp z).trans (un_mem hv z).symm)
theorem un_id {l : List api_Span} (h : Canon l) : un l = l := canon_eq (un_canon h.2) h (un_mem h.2)
/-- Sets within a bound. -/
def within (B : Int) (l : List api_Span) : Prop := ∀ s ∈ l, -B ≤ s.Lo ∧ s.Hi ≤ B
theorem within_of_mem {B : Int} {l : List api_Span} (hv : valid l) (h : ∀ z, mem z l → -2 * B ≤ z ∧ z ≤ 2 * B) : within B l := by
  intro s hs
  have hvs := hv s hs
  have h1 := h (2 * s.Lo) ⟨s, hs, by unfold inS; omega⟩
  have h2 := h (2 * s.Hi) ⟨s, hs, by unfold inS; omega⟩
  omega
theorem mem_within {B : Int} {l : List api_Span} (h : within B l) {z : Int} (hz : mem z l) : -2 * B ≤ z ∧ z ≤ 2 * B := by
  obtain ⟨s, hs, h1, h2⟩ := hz
  have := h s hs
  omega
/-- How many spans a set has at most. -/
theorem canon_len : ∀ {l : List api_Span} {lo hi : Int}, Canon l → (∀ s ∈ l, lo ≤ s.Lo ∧ s.Hi ≤ hi) → lo ≤ hi + 1 → (l.length : Int) ≤ hi - lo + 1 := by
  intro l
  induction l with
  | nil => intro lo hi _ _ h; simp; omega
  | cons s l ih =>
    intro lo hi hc hb h
    have hs := hb s (by simp)
    have hv := hc.2 s (by simp)
    have hp := (List.pairwise_cons.1 hc.1).1
    have := ih (lo := s.Hi + 1) (hi := hi) hc.tail (fun t ht => ⟨by have := hp t ht; omega, (hb t (by simp [ht])).2⟩) (by omega)
    simp
    omega
/-! ### Wider, and in common -/
def wd (l : List api_Span) (d : Int) : List api_Span := un (l.map fun s => ⟨s.Lo - d, s.Hi + d⟩)
theorem wd_valid {l : List api_Span} {d : Int} (hv : valid l) (hd : 0 ≤ d) : valid (l.map fun s => (⟨s.Lo - d, s.Hi + d⟩ : api_Span)) := by
  intro s hs
  obtain ⟨t, ht, rfl⟩ := List.mem_map.1 hs
  have := hv t ht
  simp only
  omega
theorem wd_mem {l : List api_Span} {d : Int} (hv : valid l) (hd : 0 ≤ d) (z : Int) : mem z (wd l d) ↔ ∃ y, mem y l ∧ y - 2 * d ≤ z ∧ z ≤ y + 2 * d := by
  unfold wd
  rw [un_mem (wd_valid hv hd)]
  constructor
  · rintro ⟨s, hs, h1, h2⟩
    obtain ⟨t, ht, rfl⟩ := List.mem_map.1 hs
    have hvt := hv t ht
    simp only at h1 h2
    by_cases ha : z < 2 * t.Lo
    · exact ⟨2 * t.Lo, ⟨t, ht, by unfold inS; omega⟩, by omega, by omega⟩
    · by_cases hb : 2 * t.Hi < z
      · exact ⟨2 * t.Hi, ⟨t, ht, by unfold inS; omega⟩, by omega, by omega⟩
      · exact ⟨z, ⟨t, ht, by unfold inS; omega⟩, by omega, by omega⟩
  · rintro ⟨y, ⟨t, ht, h1, h2⟩, h3, h4⟩
    exact ⟨_, List.mem_map.2 ⟨t, ht, rfl⟩, by unfold inS; simp only; omega⟩
def cm (a b : api_Span) : Option api_Span := if nonempty (comm a b) = true then some (comm a b) else none
theorem comm_in_iff {a b : api_Span} {z : Int} : inS z (comm a b) ↔ inS z a ∧ inS z b := by
  unfold comm inS
  simp only
  split <;> split <;> omega
theorem cm_in {a b : api_Span} {z : Int} : (∃ s, cm a b = some s ∧ inS z s) ↔ inS z a ∧ inS z b := by
  rw [← comm_in_iff]
  unfold cm nonempty
  simp only [decide_eq_true_eq]
  constructor
  · rintro ⟨s, h, h1⟩
    by_cases hc : (comm a b).Lo ≤ (comm a b).Hi
    · rw [if_pos hc] at h; cases h; exact h1
    · rw [if_neg hc] at h; cases h
  · intro h
    rw [if_pos (by unfold inS at h; omega)]
    exact ⟨_, rfl, h⟩
theorem cm_valid {a b s : api_Span} (h : cm a b = some s) : s.Lo ≤ s.Hi := by
  unfold cm nonempty at h
  simp only [decide_eq_true_eq] at h
  by_cases hc : (comm a b).Lo ≤ (comm a b).Hi
  · rw [if_pos hc] at h; cases h; exact hc
  · rw [if_neg hc] at h; cases h
def prs (a b : List api_Span) : List api_Span := a.flatMap fun x => b.filterMap (cm x)
theorem prs_valid (a b : List api_Span) : valid (prs a b) := by
  intro s hs
  obtain ⟨x, _, hs⟩ := List.mem_flatMap.1 hs
  obtain ⟨y, _, hs⟩ := List.mem_filterMap.1 hs
  exact cm_valid hs
theorem prs_mem (a b : List api_Span) (z : Int) : mem z (prs a b) ↔ mem z a ∧ mem z b := by
  constructor
  · rintro ⟨s, hs, hz⟩
    obtain ⟨x, hx, hs⟩ := List.mem_flatMap.1 hs
    obtain ⟨y, hy, hs⟩ := List.mem_filterMap.1 hs
    obtain ⟨h1, h2⟩ := cm_in.1 ⟨s, hs, hz⟩
    exact ⟨⟨x, hx, h1⟩, ⟨y, hy, h2⟩⟩
  · rintro ⟨⟨x, hx, h1⟩, ⟨y, hy, h2⟩⟩
    obtain ⟨s, hs, hz⟩ := cm_in.2 ⟨h1, h2⟩
    exact ⟨s, List.mem_flatMap.2 ⟨x, hx, List.mem_filterMap.2 ⟨y, hy, hs⟩⟩, hz⟩
def mt (a b : List api_Span) : List api_Span := un (prs a b)
theorem mt_mem (a b : List api_Span) (z : Int) : mem z (mt a b) ↔ mem z a ∧ mem z b := (un_mem (prs_valid a b) z).trans (prs_mem a b z)
theorem mt_canon (a b : List api_Span) : Canon (mt a b) := un_canon (prs_valid a b)
/-- What one set can have beside another. -/
def nr (a b : List api_Span) (d : Int) : List api_Span := mt a (wd b d)
theorem nr_mem {a b : List api_Span} {d : Int} (hv : valid b) (hd : 0 ≤ d) (z : Int) : mem z (nr a b d) ↔ mem z a ∧ ∃ y, mem y b ∧ y - 2 * d ≤ z ∧ z ≤ y + 2 * d := by
  unfold nr
  rw [mt_mem, wd_mem hv hd]
theorem nr_canon (a b : List api_Span) (d : Int) : Canon (nr a b d) := mt_canon _ _
theorem nr_within {B : Int} {a b : List api_Span} {d : Int} (hv : valid b) (hd : 0 ≤ d) (h : within B a) : within B (nr a b d) :=
  within_of_mem (nr_canon _ _ _).2 fun z hz => mem_within h ((nr_mem hv hd z).1 hz).1
/-! ### Two sets in turns -/
def tp : Nat → List api_Span → List api_Span → List api_Span
  | 0, _, _ => []
  | n + 1, a :: ys, b :: zs => (cm a b).toList ++ (if a.Hi < b.Hi then tp n ys (b :: zs) else tp n (a :: ys) zs)
  | _ + 1, _, _ => []
theorem tp_valid : ∀ (n : Nat) (a b : List api_Span), valid (tp n a b) := by
  intro n
  induction n with
  | zero => intro a b s hs; simp [tp] at hs
  | succ n ih =>
    intro a b s hs
    cases a with
    | nil => simp [tp] at hs
    | cons x a =>
      cases b with
      | nil => simp [tp] at hs
      | cons y b =>
        unfold tp at hs
        rcases List.mem_append.1 hs with hs | hs
        · cases hc : cm x y with
          | none => rw [hc] at hs; simp at hs
          | some t => rw [hc] at hs; simp at hs; subst hs; exact cm_valid hc
        · split at hs
          · exact ih _ _ s hs
          · exact ih _ _ s hs
theorem mem_app {a b : List api_Span} {z : Int} : mem z (a ++ b) ↔ mem z a ∨ mem z b := by
  constructor
  · rintro ⟨s, hs, hz⟩
    rcases List.mem_append.1 hs with h | h
    · exact .inl ⟨s, h, hz⟩
    · exact .inr ⟨s, h, hz⟩
  · rintro (⟨s, h, hz⟩ | ⟨s, h, hz⟩)
    · exact ⟨s, List.mem_append.2 (.inl h), hz⟩
    · exact ⟨s, List.mem_append.2 (.inr h), hz⟩
theorem mem_cm {a b : api_Span} {z : Int} : mem z (cm a b).toList ↔ inS z a ∧ inS z b := by
  rw [← cm_in]
  constructor
  · rintro ⟨s, hs, hz⟩
    cases hc : cm a b with
    | none => rw [hc] at hs; simp at hs
    | some t => rw [hc] at hs; simp at hs; subst hs; exact ⟨_, rfl, hz⟩
  · rintro ⟨s, hs, hz⟩
    exact ⟨s, by rw [hs]; simp, hz⟩
theorem tp_mem : ∀ (n : Nat) (a b : List api_Span), a.length + b.length ≤ n → Canon a → Canon b → ∀ z, mem z (tp n a b) ↔ mem z a ∧ mem z b := by
  intro n
  induction n with
  | zero =>
    intro a b hn _ _ z
    have : a = [] := List.length_eq_zero_iff.1 (by omega)
    subst this
    exact ⟨fun h => absurd h (mem_nil z), fun h => absurd h.1 (mem_nil z)⟩
  | succ n ih =>
    intro a b hn ha hb z
    cases a with
    | nil => exact ⟨fun h => absurd h (mem_nil z), fun h => absurd h.1 (mem_nil z)⟩
    | cons x a =>
      cases b with
      | nil => exact ⟨fun h => absurd h (mem_nil z), fun h => absurd h.2 (mem_nil z)⟩
      | cons y b =>
        simp only [List.length_cons] at hn
        unfold tp
        rw [mem_app, mem_cm]
        by_cases hlt : x.Hi < y.Hi
        · rw [if_pos hlt, ih a (y :: b) (by simp only [List.length_cons]; omega) ha.tail hb z]
          constructor
          · rintro (⟨h1, h2⟩ | ⟨h1, h2⟩)
            · exact ⟨mem_cons.2 (.inl h1), mem_cons.2 (.inl h2)⟩
            · exact ⟨mem_cons.2 (.inr h1), h2⟩
          · rintro ⟨h1, h2⟩
            rcases mem_cons.1 h1 with h1 | h1
            · rcases mem_cons.1 h2 with h2 | h2
              · exact .inl ⟨h1, h2⟩
              · have := hb.beyond h2; have := h1.2; omega
            · exact .inr ⟨h1, h2⟩
        · rw [if_neg hlt, ih (x :: a) b (by simp only [List.length_cons]; omega) ha hb.tail z]
          constructor
          · rintro (⟨h1, h2⟩ | ⟨h1, h2⟩)
            · exact ⟨mem_cons.2 (.inl h1), mem_cons.2 (.inl h2)⟩
            · exact ⟨h1, mem_cons.2 (.inr h2)⟩
          · rintro ⟨h1, h2⟩
            rcases mem_cons.1 h2 with h2 | h2
            · rcases mem_cons.1 h1 with h1 | h1
              · exact .inl ⟨h1, h2⟩
              · have := ha.beyond h1; have := h2.2; omega
            · exact .inr ⟨h1, h2⟩
theorem tp_len : ∀ (n : Nat) (a b : List api_Span), (tp n a b).length ≤ n := by
  intro n
  induction n with
  | zero => intro a b; simp [tp]
  | succ n ih =>
    intro a b
    cases a with
    | nil => simp [tp]
    | cons x a =>
      cases b with
      | nil => simp [tp]
      | cons y b =>
        unfold tp
        have h1 : (cm x y).toList.length ≤ 1 := by cases cm x y <;> simp
        rw [List.length_append]
        split
        · have := ih a (y :: b); omega
        · have := ih (x :: a) b; omega
theorem tp_eq {n : Nat} {a b : List api_Span} (hn : a.length + b.length ≤ n) (ha : Canon a) (hb : Canon b) : un (tp n a b) = mt a b :=
  canon_eq (un_canon (tp_valid n a b)) (mt_canon a b) fun z => (un_mem (tp_valid n a b) z).trans ((tp_mem n a b hn ha hb z).trans (mt_mem a b z).symm)
end Go.Proofs.Ytbhjgebjojdohaa
/- Chapter 3, plain: what the program and the document reckon with sets. -/
namespace Go.Proofs.Ytbhjgebjojdohaa
open Go Go.RowKit Go.Eng
set_option maxRecDepth 10000
set_option linter.unusedVariables false
set_option linter.unusedSimpArgs false
/-- Enough steps. -/
def FF : Nat := 2000000000000
theorem natS (i : Nat) : ((i : Int) + 1) = ((i + 1 : Nat) : Int) := by omega
theorem united_un {F : Nat} (hF : FF ≤ F) {l : List api_Span} (hv : valid l) (hb : ∀ s ∈ l, spB s) (hl : l.length ≤ 1000000000000) : fold_speeds_united F l = some (un l) := by
  unfold FF at hF
  obtain ⟨σ, h1, h2, h3⟩ := united_eq F l (by omega) hl hb
  rw [h1, un_sorted h2 h3 hv]
theorem ref_united_un {F : Nat} (hF : FF ≤ F) {l : List api_Span} (hv : valid l) (hl : l.length ≤ 1000000000000) : ref03_united F l = some (un l) := by
  unfold FF at hF
  exact ref_united_eq F l _ hl (by omega) (List.mergeSort_perm l _) (sorted_sort l) hv
/-! ### Wider -/
section
variable {l : List api_Span} {d : Int}
theorem wide_loop (F : Nat) (hB : within 1000000000 l) (hv : valid l) (hd : 0 ≤ d ∧ d ≤ 1000000000) (hl : l.length ≤ 1000000000000) : ∀ (n N i : Nat) (acc : List api_Span), i + n = l.length → n < N → acc.length + n ≤ 1000000000000 →
    fold_speeds_wide_L2 F l d N (i : Int) acc = fold_speeds_wide_K1 F (acc ++ (l.drop i).map fun s => ⟨s.Lo - d, s.Hi + d⟩) := by
  intro n
  induction n with
  | zero =>
    intro N i acc hi hN ha
    obtain ⟨N, rfl⟩ : ∃ N', N = N' + 1 := ⟨N - 1, by omega⟩
    show fold_speeds_wide_B2 F l d (fold_speeds_wide_L2 F l d N) (i : Int) acc = _
    unfold fold_speeds_wide_B2
    rw [bifF (by simp; omega), List.drop_eq_nil_of_le (by omega)]
    simp
  | succ n ih =>
    intro N i acc hi hN ha
    obtain ⟨N, rfl⟩ : ∃ N', N = N' + 1 := ⟨N - 1, by omega⟩
    show fold_speeds_wide_B2 F l d (fold_speeds_wide_L2 F l d N) (i : Int) acc = _
    unfold fold_speeds_wide_B2
    have hm : l.getD i default ∈ l := by rw [List.getD_eq_getElem?_getD, List.getElem?_eq_getElem (by omega : i < l.length)]; exact List.getElem_mem _
    have hb := hB _ hm
    rw [drop_cons (i := i) (by omega) default]
    rw [bifT (by simp; omega), getb default (by omega), Int.toNat_natCast]
    have hvx := hv _ hm
    generalize l.getD i default = x at *
    rw [ckb (by omega), ckb (by omega), apdb (by simp; omega), ckb (by omega), natS, ih N (i + 1) _ (by omega) (by omega) (by simp; omega)]
    simp
theorem rwide_loop (F : Nat) (hB : within 1000000000 l) (hv : valid l) (hd : 0 ≤ d ∧ d ≤ 1000000000) (hl : l.length ≤ 1000000000000) : ∀ (n N i : Nat) (acc : List api_Span), i + n = l.length → n < N → acc.length + n ≤ 1000000000000 →
    ref03_wide_L2 F l d N acc (i : Int) = ref03_wide_K1 F (acc ++ (l.drop i).map fun s => ⟨s.Lo - d, s.Hi + d⟩) := by
  intro n
  induction n with
  | zero =>
    intro N i acc hi hN ha
    obtain ⟨N, rfl⟩ : ∃ N', N = N' + 1 := ⟨N - 1, by omega⟩
    show ref03_wide_B2 F l d (ref03_wide_L2 F l d N) acc (i : Int) = _
    unfold ref03_wide_B2
    rw [bifF (by simp; omega), List.drop_eq_nil_of_le (by omega)]
    simp
  | succ n ih =>
    intro N i acc hi hN ha
    obtain ⟨N, rfl⟩ : ∃ N', N = N' + 1 := ⟨N - 1, by omega⟩
    show ref03_wide_B2 F l d (ref03_wide_L2 F l d N) acc (i : Int) = _
    unfold ref03_wide_B2
    have hm : l.getD i default ∈ l := by rw [List.getD_eq_getElem?_getD, List.getElem?_eq_getElem (by omega : i < l.length)]; exact List.getElem_mem _
    have hb := hB _ hm
    have hvx := hv _ hm
    rw [drop_cons (i := i) (by omega) default]
    rw [bifT (by simp; omega), getb default (by omega), Int.toNat_natCast, ckb (by omega), getb default (by omega), Int.toNat_natCast, ckb (by omega), apdb (by simp; omega), ckb (by omega), natS, ih N (i + 1) _ (by omega) (by omega) (by simp; omega)]
    simp
theorem wd_spB (hB : within 1000000000 l) (hv : valid l) (hd : 0 ≤ d ∧ d ≤ 1000000000) : ∀ s ∈ l.map (fun s => (⟨s.Lo - d, s.Hi + d⟩ : api_Span)), spB s := by
  intro s hs
  obtain ⟨t, ht, rfl⟩ := List.mem_map.1 hs
  have := hB t ht
  have := hv t ht
  unfold spB
  simp only
  omega
theorem wide_eq {F : Nat} (hF : FF ≤ F) (hB : within 1000000000 l) (hv : valid l) (hd : 0 ≤ d ∧ d ≤ 1000000000) (hl : l.length ≤ 1000000000000) : fold_speeds_wide F l d = some (wd l d) := by
  have hF' := hF
  unfold FF at hF'
  unfold fold_speeds_wide
  have hh := wide_loop F hB hv hd hl l.length F 0 [] (by omega) (by omega) (by simp; omega)
  refine Eq.trans hh ?_
  unfold fold_speeds_wide_K1
  rw [List.drop_zero, List.nil_append, united_un hF (wd_valid hv hd.1) (wd_spB hB hv hd) (by simpa using hl), sb]
  rfl
theorem ref_wide_eq {F : Nat} (hF : FF ≤ F) (hB : within 1000000000 l) (hv : valid l) (hd : 0 ≤ d ∧ d ≤ 1000000000) (hl : l.length ≤ 1000000000000) : ref03_wide F l d = some (wd l d) := by
  have hF' := hF
  unfold FF at hF'
  unfold ref03_wide
  have hh := rwide_loop F hB hv hd hl l.length F 0 [] (by omega) (by omega) (by simp; omega)
  refine Eq.trans hh ?_
  unfold ref03_wide_K1
  rw [List.drop_zero, List.nil_append, ref_united_un hF (wd_valid hv hd.1) (by simpa using hl), sb]
  rfl
end
/-! ### In common -/
theorem cmB {a b : api_Span} {β : Type} (x y : β) : (bif (decide ((comm a b).Lo ≤ (comm a b).Hi)) then x else y) = match cm a b with | some _ => x | none => y := by
  unfold cm nonempty
  by_cases h : (comm a b).Lo ≤ (comm a b).Hi <;> simp [h]
section
variable {a b : List api_Span}
theorem meet_loop (F : Nat) (ha : a.length ≤ 100000000000) (hb : b.length ≤ 100000000000) : ∀ (n N i k : Nat) (acc : List api_Span), i ≤ a.length → k ≤ b.length → a.length - i + (b.length - k) ≤ n → n < N → acc.length + n ≤ 1000000000000 →
    fold_speeds_meet_L2 F a b N acc (i : Int) (k : Int) = fold_speeds_meet_K1 F (acc ++ tp n (a.drop i) (b.drop k)) := by
  intro n
  induction n with
  | zero =>
    intro N i k acc hi hk hn hN hacc
    obtain ⟨N, rfl⟩ : ∃ N', N = N' + 1 := ⟨N - 1, by omega⟩
    show fold_speeds_meet_B2 F a b (fold_speeds_meet_L2 F a b N) acc (i : Int) (k : Int) = _
    unfold fold_speeds_meet_B2
    rw [bifF (by simp [cond_eq_ite]; omega)]
    simp [tp]
  | succ n ih =>
    intro N i k acc hi hk hn hN hacc
    obtain ⟨N, rfl⟩ : ∃ N', N = N' + 1 := ⟨N - 1, by omega⟩
    show fold_speeds_meet_B2 F a b (fold_speeds_meet_L2 F a b N) acc (i : Int) (k : Int) = _
    unfold fold_speeds_meet_B2
    by_cases h1 : i < a.length
    · by_cases h2 : k < b.length
      · rw [bifT (by simp [cond_eq_ite]; omega), getb default (by omega), getb default (by omega), Int.toNat_natCast, Int.toNat_natCast, fold_common_eq]
        have ga : ∀ {β : Type} (f : api_Span → Option β), (getI a (i : Int)).bind f = f (a.getD i default) := fun f => by rw [getb default (by omega), Int.toNat_natCast]
        have gb : ∀ {β : Type} (f : api_Span → Option β), (getI b (k : Int)).bind f = f (b.getD k default) := fun f => by rw [getb default (by omega), Int.toNat_natCast]
        rw [drop_cons (i := i) h1 default, drop_cons (i := k) h2 default]
        generalize hx : a.getD i default = x at *
        generalize hy : b.getD k default = y at *
        have hK : ∀ (c : List api_Span), c.length + n ≤ 1000000000000 → fold_speeds_meet_K3 a b (i : Int) (k : Int) (fold_speeds_meet_L2 F a b N) c = fold_speeds_meet_K1 F (c ++ if x.Hi < y.Hi then tp n (a.drop (i + 1)) (y :: b.drop (k + 1)) else tp n (x :: a.drop (i + 1)) (b.drop (k + 1))) := by
          intro c hc
          unfold fold_speeds_meet_K3
          rw [ga, gb]
          by_cases hlt : x.Hi < y.Hi
          · rw [bifT (by simpa using hlt), ckb (by omega), natS, ih N (i + 1) k c (by omega) hk (by omega) (by omega) hc, if_pos hlt, drop_cons (i := k) h2 default, hy]
          · rw [bifF (by simpa using hlt), ckb (by omega), natS, ih N i (k + 1) c hi (by omega) (by omega) (by omega) hc, if_neg hlt, drop_cons (i := i) h1 default, hx]
        refine Eq.trans (cmB _ _) ?_
        conv => rhs; unfold tp
        cases hc : cm x y with
        | none => simp only; rw [hK acc (by omega)]; simp
        | some s =>
          have hs : s = comm x y := by unfold cm at hc; split at hc <;> simp_all
          subst hs
          simp only
          rw [apdb (by simp; omega), hK _ (by simp; omega)]
          simp
      · rw [bifF (by simp [cond_eq_ite]; omega), List.drop_eq_nil_of_le (by omega : b.length ≤ k)]
        cases a.drop i <;> simp [tp]
    · rw [bifF (by simp [cond_eq_ite]; omega), List.drop_eq_nil_of_le (by omega : a.length ≤ i)]
      simp [tp]
theorem meet_eq {F : Nat} (hF : FF ≤ F) (ha : a.length ≤ 100000000000) (hb : b.length ≤ 100000000000) (hca : Canon a) (hcb : Canon b) (hB : within 1000000000 a) : fold_speeds_meet F a b = some (mt a b) := by
  have hF' := hF
  unfold FF at hF'
  unfold fold_speeds_meet
  have hh := meet_loop F ha hb (a.length + b.length) F 0 0 [] (by omega) (by omega) (by omega) (by omega) (by simp; omega)
  refine Eq.trans hh ?_
  unfold fold_speeds_meet_K1
  have hlen := tp_len (a.length + b.length) a b
  have hv := tp_valid (a.length + b.length) a b
  have hw : within 1000000000 (tp (a.length + b.length) a b) := within_of_mem hv fun z hz => mem_within hB ((tp_mem _ a b (Nat.le_refl _) hca hcb z).1 hz).1
  rw [List.drop_zero, List.drop_zero, List.nil_append, united_un hF hv (fun s hs => by have := hw s hs; have := hv s hs; unfold spB; omega) (by omega), sb, tp_eq (Nat.le_refl _) hca hcb]
theorem rmeet_inner (ha : a.length ≤ 1000000) (hb : b.length ≤ 1000000) (i : Nat) (hi : i < a.length) (k2 : List api_Span → Int → Option (List api_Span)) : ∀ (n N j : Nat) (acc : List api_Span), j + n = b.length → n < N → acc.length + n ≤ 2000000000000 →
    ref03_meet_L4 a b (i : Int) k2 N acc (j : Int) = ref03_meet_K3 (i : Int) k2 (acc ++ (b.drop j).filterMap (cm (a.getD i default))) := by
  intro n
  induction n with
  | zero =>
    intro N j acc hj hN hacc
    obtain ⟨N, rfl⟩ : ∃ N', N = N' + 1 := ⟨N - 1, by omega⟩
    show ref03_meet_B4 a b (i : Int) k2 (ref03_meet_L4 a b (i : Int) k2 N) acc (j : Int) = _
    unfold ref03_meet_B4
    rw [bifF (by simp; omega), List.drop_eq_nil_of_le (by omega)]
    simp
  | succ n ih =>
    intro N j acc hj hN hacc
    obtain ⟨N, rfl⟩ : ∃ N', N = N' + 1 := ⟨N - 1, by omega⟩
    show ref03_meet_B4 a b (i : Int) k2 (ref03_meet_L4 a b (i : Int) k2 N) acc (j : Int) = _
    unfold ref03_meet_B4 ref03_meet_K5
    rw [drop_cons (i := j) (by omega) default]
    rw [bifT (by simp; omega), getb default (by omega), getb default (by omega), Int.toNat_natCast, Int.toNat_natCast, ref_common_eq]
    have hck : ∀ (l : List api_Span), (ck ((j : Int) + 1)).bind (fun x1698 => ref03_meet_L4 a b (i : Int) k2 N l x1698) = ref03_meet_L4 a b (i : Int) k2 N l ((j + 1 : Nat) : Int) := fun l => by rw [ckb (by omega), natS]
    refine Eq.trans (cmB _ _) ?_
    cases hc : cm (a.getD i default) (b.getD j default) with
    | none => simp only; rw [hck, ih N (j + 1) acc (by omega) (by omega) (by omega), List.filterMap_cons, hc]
    | some s =>
      have hs : s = comm (a.getD i default) (b.getD j default) := by unfold cm at hc; split at hc <;> simp_all
      simp only
      rw [apdb (by simp; omega), hck, ih N (j + 1) _ (by omega) (by omega) (by simp; omega), List.filterMap_cons, hc, hs, List.append_assoc]
      rfl
theorem rmeet_loop (F : Nat) (hF : FF ≤ F) (ha : a.length ≤ 1000000) (hb : b.length ≤ 1000000) : ∀ (n N i : Nat) (acc : List api_Span), i + n = a.length → n < N → acc.length + n * b.length ≤ 1000000000000 →
    ref03_meet_L2 F a b N acc (i : Int) = ref03_meet_K1 F (acc ++ prs (a.drop i) b) := by
  have hF' := hF
  unfold FF at hF'
  intro n
  induction n with
  | zero =>
    intro N i acc hi hN hacc
    obtain ⟨N, rfl⟩ : ∃ N', N = N' + 1 := ⟨N - 1, by omega⟩
    show ref03_meet_B2 F a b (ref03_meet_L2 F a b N) acc (i : Int) = _
    unfold ref03_meet_B2
    rw [bifF (by simp; omega), List.drop_eq_nil_of_le (by omega)]
    simp [prs]
  | succ n ih =>
    intro N i acc hi hN hacc
    obtain ⟨N, rfl⟩ : ∃ N', N = N' + 1 := ⟨N - 1, by omega⟩
    show ref03_meet_B2 F a b (ref03_meet_L2 F a b N) acc (i : Int) = _
    unfold ref03_meet_B2
    have hmul : (n + 1) * b.length = n * b.length + b.length := Nat.succ_mul ..
    rw [bifT (by simp; omega)]
    have h := rmeet_inner ha hb i (by omega) (ref03_meet_L2 F a b N) b.length F 0 acc (by omega) (by omega) (by omega)
    refine Eq.trans h ?_
    unfold ref03_meet_K3
    have hlen := List.length_filterMap_le (cm (a.getD i default)) b
    rw [ckb (by omega), natS, List.drop_zero, ih N (i + 1) _ (by omega) (by omega) (by rw [List.length_append]; omega), drop_cons (i := i) (by omega) default, List.append_assoc]
    rfl
theorem ref_meet_eq {F : Nat} (hF : FF ≤ F) (ha : a.length ≤ 1000000) (hb : b.length ≤ 1000000) : ref03_meet F a b = some (mt a b) := by
  have hF' := hF
  unfold FF at hF'
  unfold ref03_meet
  have hmul : a.length * b.length ≤ 1000000 * 1000000 := Nat.mul_le_mul ha hb
  have hh := rmeet_loop F hF ha hb a.length F 0 [] (by omega) (by omega) (by simp; omega)
  refine Eq.trans hh ?_
  unfold ref03_meet_K1
  have hlen : (prs a b).length ≤ a.length * b.length := by
    unfold prs
    clear hmul hh ha
    induction a with
    | nil => simp
    | cons x a ih =>
      have := List.length_filterMap_le (cm x) b
      simp [Nat.succ_mul] at ih ⊢
      omega
  rw [List.drop_zero, List.nil_append, ref_united_un hF (prs_valid a b) (by omega), sb]
  rfl
end
/-- A set that is a gate's. -/
def Good (l : List api_Span) : Prop := Canon l ∧ within 200000 l
theorem Good.len {l : List api_Span} (h : Good l) : l.length ≤ 400001 := by
  have := canon_len (lo := -200000) (hi := 200000) h.1 h.2 (by omega)
  omega
theorem un_len (l : List api_Span) : (un l).length ≤ l.length := by
  have := mergeL_len (l.mergeSort (fun x y => decide (x.Lo ≤ y.Lo)))
  rw [List.length_mergeSort] at this
  exact this
theorem wd_len (l : List api_Span) (d : Int) : (wd l d).length ≤ l.length := by
  have := un_len (l.map fun s => (⟨s.Lo - d, s.Hi + d⟩ : api_Span))
  simpa [wd] using this
theorem Good.nr {a b : List api_Span} {d : Int} (ha : Good a) (hb : Good b) (hd : 0 ≤ d) : Good (nr a b d) := ⟨nr_canon a b d, nr_within hb.1.2 hd ha.2⟩
theorem Good.mt {a b : List api_Span} (ha : Good a) : Good (mt a b) := ⟨mt_canon a b, within_of_mem (mt_canon a b).2 fun z hz => mem_within ha.2 ((mt_mem a b z).1 hz).1⟩
theorem Good.big {l : List api_Span} (h : Good l) : within 1000000000 l := fun s hs => by have := h.2 s hs; omega
theorem near_eq {F : Nat} (hF : FF ≤ F) {a b : List api_Span} {d : Int} (ha : Good a) (hb : Good b) (hd : 0 ≤ d ∧ d ≤ 1000000000) : fold_speeds_near F a b d = some (nr a b d) := by
  have h1 := ha.len
  have h2 := hb.len
  have h3 := wd_len b d
  unfold fold_speeds_near
  rw [wide_eq hF hb.big hb.1.2 hd (by omega), sb, meet_eq hF (by omega) (by omega) ha.1 (show Canon (wd b d) from un_canon (wd_valid hb.1.2 hd.1)) ha.big, sb]
  rfl
theorem ref_near_eq {F : Nat} (hF : FF ≤ F) {a b : List api_Span} {d : Int} (ha : Good a) (hb : Good b) (hd : 0 ≤ d ∧ d ≤ 1000000000) {β : Type} (f : List api_Span → Option β) :
    ((ref03_wide F b d).bind fun y => (ref03_meet F a y).bind f) = f (nr a b d) := by
  have h1 := ha.len
  have h2 := hb.len
  have h3 := wd_len b d
  rw [ref_wide_eq hF hb.big hb.1.2 hd (by omega), sb, ref_meet_eq hF (by omega) (by omega), sb]
  rfl
end Go.Proofs.Ytbhjgebjojdohaa
/- Chapter 3, plain: courses along a ray. -/
namespace Go.Proofs.Ytbhjgebjojdohaa
open Go Go.RowKit Go.Eng
set_option maxRecDepth 10000
set_option linter.unusedVariables false
set_option linter.unusedSimpArgs false
abbrev Sets := List (List api_Span)
def gt (S : Sets) (i : Nat) : List api_Span := S.getD i []
def ne (S : Sets) (i : Nat) : Bool := decide ((gt S i).length > 0)
/-- Gates that are linked. -/
def lk (S : Sets) (br : Int) (i j : Nat) : Prop := i < j ∧ j < S.length ∧ ne S i = true ∧ ne S j = true ∧ (∀ x, i < x → x < j → ne S x = false) ∧ (j : Int) - i ≤ br
theorem lk_left {S : Sets} {br : Int} {i i' j : Nat} (h : lk S br i j) (h' : lk S br i' j) : i = i' := by
  obtain ⟨h1, h2, h3, h4, h5, h6⟩ := h
  obtain ⟨g1, g2, g3, g4, g5, g6⟩ := h'
  rcases Nat.lt_trichotomy i i' with hlt | hlt | hlt
  · have := h5 i' hlt g1; rw [this] at g3; cases g3
  · exact hlt
  · have := g5 i hlt h1; rw [this] at h3; cases h3
theorem lk_right {S : Sets} {br : Int} {i j j' : Nat} (h : lk S br i j) (h' : lk S br i j') : j = j' := by
  obtain ⟨h1, h2, h3, h4, h5, h6⟩ := h
  obtain ⟨g1, g2, g3, g4, g5, g6⟩ := h'
  rcases Nat.lt_trichotomy j j' with hlt | hlt | hlt
  · have := g5 j h1 hlt; rw [this] at h4; cases h4
  · exact hlt
  · have := h5 j' g1 hlt; rw [this] at g4; cases g4
section
variable (S : Sets) (br jp : Int)
def pF (f : Sets) (j : Nat) : Prop := (∀ i, lk S br i j → gt f j = nr (gt S j) (gt f i) (jp * ((j : Int) - i))) ∧ ((∀ i, ¬ lk S br i j) → gt f j = gt S j)
def pB (b : Sets) (i : Nat) : Prop := (∀ j, lk S br i j → gt b i = nr (gt S i) (gt b j) (jp * ((j : Int) - i))) ∧ ((∀ j, ¬ lk S br i j) → gt b i = gt S i)
def pP (f p : Sets) (i : Nat) : Prop := (∀ j, lk S br i j → gt p i = nr (gt f i) (gt p j) (jp * ((j : Int) - i))) ∧ ((∀ j, ¬ lk S br i j) → gt p i = gt f i)
end
def AllGood (f : Sets) : Prop := ∀ x ∈ f, Good x
theorem good_nil : Good [] := ⟨⟨.nil, fun s hs => by cases hs⟩, fun s hs => by cases hs⟩
theorem AllGood.gt {f : Sets} (h : AllGood f) (i : Nat) : Good (gt f i) := by
  unfold Proofs.Ytbhjgebjojdohaa.gt
  rw [List.getD_eq_getElem?_getD]
  by_cases hi : i < f.length
  · rw [List.getElem?_eq_getElem hi]; exact h _ (List.getElem_mem hi)
  · rw [List.getElem?_eq_none (by omega)]; exact good_nil
theorem AllGood.set {f : Sets} (h : AllGood f) (i : Nat) {x : List api_Span} (hx : Good x) : AllGood (f.set i x) := by
  intro y hy
  rcases List.mem_or_eq_of_mem_set hy with h1 | h1
  · exact h y h1
  · rw [h1]; exact hx
theorem gt_set {f : Sets} {i j : Nat} {x : List api_Span} (hi : i < f.length) : gt (f.set i x) j = if i = j then x else gt f j := by
  unfold gt
  rw [List.getD_eq_getElem?_getD, List.getD_eq_getElem?_getD, List.getElem?_set]
  by_cases h : i = j
  · rw [if_pos h, if_pos h, if_pos hi]; rfl
  · rw [if_neg h, if_neg h]
theorem ext_gt {a b : Sets} (hl : a.length = b.length) (h : ∀ i < a.length, gt a i = gt b i) : a = b := by
  apply List.ext_getElem hl
  intro i h1 h2
  have := h i h1
  unfold gt at this
  rw [List.getD_eq_getElem?_getD, List.getD_eq_getElem?_getD, List.getElem?_eq_getElem h1, List.getElem?_eq_getElem h2] at this
  exact this
section
variable {S : Sets} {br jp : Int}
theorem dpos (hj : 0 ≤ jp ∧ jp ≤ 400000) (hb : br ≤ 16) {i j : Nat} (h : lk S br i j) : 0 ≤ jp * ((j : Int) - i) ∧ jp * ((j : Int) - i) ≤ 1000000000 := by
  obtain ⟨h1, _, _, _, _, h6⟩ := h
  constructor
  · exact Int.mul_nonneg hj.1 (by omega)
  · have h2 : jp * ((j : Int) - i) ≤ jp * 16 := Int.mul_le_mul_of_nonneg_left (by omega) hj.1
    omega
/-- Forward sets are determined. -/
theorem F_unique {f g : Sets} (hf : ∀ j < S.length, pF S br jp f j) (hg : ∀ j < S.length, pF S br jp g j) : ∀ (n j : Nat), j < n → j < S.length → gt f j = gt g j := by
  intro n
  induction n with
  | zero => intro j h; omega
  | succ n ih =>
    intro j hj hjl
    by_cases h : ∃ i, lk S br i j
    · obtain ⟨i, hi⟩ := h
      rw [(hf j hjl).1 i hi, (hg j hjl).1 i hi, ih i (by have := hi.1; omega) (by have := hi.1; have := hi.2.1; omega)]
    · have h' : ∀ i, ¬ lk S br i j := fun i hi => h ⟨i, hi⟩
      rw [(hf j hjl).2 h', (hg j hjl).2 h']
/-- What is left behind both ways is what both ways have in common. -/
theorem both_ways (hS : AllGood S) (hj : 0 ≤ jp ∧ jp ≤ 400000) (hb : br ≤ 16) {f b p : Sets} (hfG : AllGood f) (hbG : AllGood b) (hpG : AllGood p) (hf : ∀ j < S.length, pF S br jp f j) (hB : ∀ i < S.length, pB S br jp b i) (hP : ∀ i < S.length, pP S br jp f p i) :
    ∀ (n i : Nat), S.length - i ≤ n → i < S.length → ∀ z, mem z (gt p i) ↔ mem z (gt f i) ∧ mem z (gt b i) := by
  have hfS : ∀ j < S.length, ∀ z, mem z (gt f j) → mem z (gt S j) := by
    intro j hjl z hz
    by_cases h : ∃ i, lk S br i j
    · obtain ⟨i, hi⟩ := h
      rw [(hf j hjl).1 i hi] at hz
      exact ((nr_mem (hfG.gt i).1.2 (dpos hj hb hi).1 z).1 hz).1
    · rw [(hf j hjl).2 (fun i hi => h ⟨i, hi⟩)] at hz; exact hz
  have hbS : ∀ i < S.length, ∀ z, mem z (gt b i) → mem z (gt S i) := by
    intro i hil z hz
    by_cases h : ∃ j, lk S br i j
    · obtain ⟨j, hij⟩ := h
      rw [(hB i hil).1 j hij] at hz
      exact ((nr_mem (hbG.gt j).1.2 (dpos hj hb hij).1 z).1 hz).1
    · rw [(hB i hil).2 (fun j hj => h ⟨j, hj⟩)] at hz; exact hz
  intro n
  induction n with
  | zero => intro i h1 h2; omega
  | succ n ih =>
    intro i hn hil z
    by_cases h : ∃ j, lk S br i j
    · obtain ⟨j, hij⟩ := h
      have hd := dpos hj hb hij
      have hjl := hij.2.1
      rw [(hP i hil).1 j hij, (hB i hil).1 j hij, nr_mem (hpG.gt j).1.2 hd.1, nr_mem (hbG.gt j).1.2 hd.1]
      constructor
      · rintro ⟨h1, y, hy, h2⟩
        have := (ih j (by have := hij.1; omega) hjl y).1 hy
        exact ⟨h1, hfS i hil z h1, y, this.2, h2⟩
      · rintro ⟨h1, h2, y, hy, h3⟩
        refine ⟨h1, y, (ih j (by have := hij.1; omega) hjl y).2 ⟨?_, hy⟩, h3⟩
        rw [(hf j hjl).1 i hij, nr_mem (hfG.gt i).1.2 hd.1]
        exact ⟨hbS j hjl y hy, z, h1, by omega, by omega⟩
    · have h' : ∀ j, ¬ lk S br i j := fun j hij => h ⟨j, hij⟩
      rw [(hP i hil).2 h', (hB i hil).2 h']
      exact ⟨fun hz => ⟨hz, hfS i hil z hz⟩, fun hz => hz.1⟩
/-! ### The next gate -/
theorem getG {β : Type} {f : Sets} {i : Nat} (hi : i < f.length) (k : List api_Span → Option β) : (getI f (i : Int)).bind k = k (gt f i) := by
  rw [getb [] (by omega), Int.toNat_natCast]; rfl
theorem next_loop (i : Nat) (hi : i < S.length) (hl : S.length ≤ 100000) (hbr : br ≤ 16) : ∀ (n N j : Nat), j + n = S.length → n < N → i < j → (∀ x, i < x → x < j → ne S x = false) →
    ∃ r, ref03_Next_L2 S (i : Int) br N (j : Int) = some r ∧ ((∃ k : Nat, lk S br i k ∧ r = (k : Int)) ∨ (r = -1 ∧ ∀ k, ¬ lk S br i k)) := by
  intro n
  induction n with
  | zero =>
    intro N j hj hN hij hno
    obtain ⟨N, rfl⟩ : ∃ N', N = N' + 1 := ⟨N - 1, by omega⟩
    refine ⟨-1, ?_, .inr ⟨rfl, ?_⟩⟩
    · show ref03_Next_B2 S (i : Int) br (ref03_Next_L2 S (i : Int) br N) (j : Int) = _
      unfold ref03_Next_B2
      have e : decide ((j : Int) < ((S.length : Nat) : Int)) = false := by simp; omega
      rw [e, gdF (g := false == true && true) rfl, sb]
      rfl
    · rintro k ⟨h1, h2, h3, h4, h5, h6⟩
      have := hno k h1 (by omega)
      rw [this] at h4; cases h4
  | succ n ih =>
    intro N j hj hN hij hno
    obtain ⟨N, rfl⟩ : ∃ N', N = N' + 1 := ⟨N - 1, by omega⟩
    have e : decide ((j : Int) < ((S.length : Nat) : Int)) = true := by simp; omega
    by_cases hd : (j : Int) - i ≤ br
    · by_cases hni : ne S i = true
      · by_cases hnj : ne S j = true
        · refine ⟨j, ?_, .inl ⟨j, ⟨hij, by omega, hni, hnj, hno, hd⟩, rfl⟩⟩
          show ref03_Next_B2 S (i : Int) br (ref03_Next_L2 S (i : Int) br N) (j : Int) = _
          unfold ref03_Next_B2
          unfold ne at hni hnj
          rw [e, gdT (g := true == true && true) rfl, ckb (by omega)]
          refine Eq.trans (bifT (by simpa using hd)) ?_
          rw [getG hi, bifT (by simpa using hni), getG (by omega), bifT (by simpa using hnj)]
        · have hnj' : ne S j = false := by simpa using hnj
          obtain ⟨r, h1, h2⟩ := ih N (j + 1) (by omega) (by omega) (by omega) (fun x hx hx2 => by
            by_cases hxj : x = j
            · rw [hxj]; exact hnj'
            · exact hno x hx (by omega))
          refine ⟨r, ?_, h2⟩
          show ref03_Next_B2 S (i : Int) br (ref03_Next_L2 S (i : Int) br N) (j : Int) = _
          unfold ref03_Next_B2
          unfold ne at hni hnj'
          rw [e, gdT (g := true == true && true) rfl, ckb (by omega)]
          refine Eq.trans (bifT (by simpa using hd)) ?_
          rw [getG hi, bifT (by simpa using hni), getG (by omega), bifF (by simpa using hnj'), ckb (by omega), natS]
          exact h1
      · refine ⟨-1, ?_, .inr ⟨rfl, fun k hk => hni hk.2.2.1⟩⟩
        have hni' : ne S i = false := by simpa using hni
        show ref03_Next_B2 S (i : Int) br (ref03_Next_L2 S (i : Int) br N) (j : Int) = _
        unfold ref03_Next_B2
        unfold ne at hni'
        rw [e, gdT (g := true == true && true) rfl, ckb (by omega)]
        refine Eq.trans (bifT (by simpa using hd)) ?_
        rw [getG hi, bifF (by simpa using hni')]
        rfl
    · refine ⟨-1, ?_, .inr ⟨rfl, ?_⟩⟩
      · show ref03_Next_B2 S (i : Int) br (ref03_Next_L2 S (i : Int) br N) (j : Int) = _
        unfold ref03_Next_B2
        rw [e, gdT (g := true == true && true) rfl, ckb (by omega)]
        refine Eq.trans (bifF (by simpa using hd)) ?_
        rfl
      · rintro k ⟨h1, h2, h3, h4, h5, h6⟩
        by_cases hk : k < j
        · have := hno k h1 hk; rw [this] at h4; cases h4
        · omega
theorem next_eq {F : Nat} (hF : FF ≤ F) (i : Nat) (hi : i < S.length) (hl : S.length ≤ 100000) (hbr : br ≤ 16) :
    ∃ r, ref03_Next F S (i : Int) br = some r ∧ ((∃ k : Nat, lk S br i k ∧ r = (k : Int)) ∨ (r = -1 ∧ ∀ k, ¬ lk S br i k)) := by
  unfold FF at hF
  unfold ref03_Next
  rw [ckb (by omega), natS]
  exact next_loop i hi hl hbr (S.length - (i + 1)) F (i + 1) (by omega) (by omega) (by omega) (fun x h1 h2 => by omega)
end
end Go.Proofs.Ytbhjgebjojdohaa
/- Chapter 3, plain: how the document and the program go along a ray. -/
namespace Go.Proofs.Ytbhjgebjojdohaa
open Go Go.RowKit Go.Eng
set_option maxRecDepth 10000
set_option linter.unusedVariables false
set_option linter.unusedSimpArgs false
section
variable {S : Sets} {br jp : Int} {F : Nat}
theorem setG {β : Type} {f : Sets} {i : Nat} {x : List api_Span} (hi : i < f.length) (k : Sets → Option β) : (setI f (i : Int) x).bind k = k (f.set i x) := by
  unfold setI
  rw [if_pos (by omega), sb, Int.toNat_natCast]
/-! ### The document -/
theorem init_loop (hF : FF ≤ F) (hS : AllGood S) (hl : S.length ≤ 100000) : ∀ (n N i : Nat) (A B : Sets), i + n = S.length → n < N → A.length = S.length → B.length = S.length → (∀ x < i, gt A x = gt S x) → (∀ x < i, gt B x = gt S x) →
    ref03_Ray_L11 F S jp br N A (i : Int) B = ref03_Ray_K2 F S jp br S S := by
  intro n
  induction n with
  | zero =>
    intro N i A B hi hN hA hB h1 h2
    obtain ⟨N, rfl⟩ : ∃ N', N = N' + 1 := ⟨N - 1, by omega⟩
    show ref03_Ray_B11 F S jp br (ref03_Ray_L11 F S jp br N) A (i : Int) B = _
    unfold ref03_Ray_B11
    rw [bifF (by simp; omega), ext_gt hA (fun x hx => h1 x (by omega)), ext_gt hB (fun x hx => h2 x (by omega))]
  | succ n ih =>
    intro N i A B hi hN hA hB h1 h2
    obtain ⟨N, rfl⟩ : ∃ N', N = N' + 1 := ⟨N - 1, by omega⟩
    show ref03_Ray_B11 F S jp br (ref03_Ray_L11 F S jp br N) A (i : Int) B = _
    unfold ref03_Ray_B11
    have hg := hS.gt i
    have hlen := hg.len
    have hu : ref03_united F (gt S i) = some (gt S i) := by rw [ref_united_un hF hg.1.2 (by omega), un_id hg.1]
    rw [bifT (by simp; omega), getG (by omega), getG (by omega), hu, sb, sb, getG (by omega), setG (by omega), getG (by omega), setG (by omega), ckb (by omega), natS]
    refine ih N (i + 1) _ _ (by omega) (by omega) (by simpa using hA) (by simpa using hB) (fun x hx => ?_) (fun x hx => ?_)
    · rw [gt_set (by omega)]
      by_cases hxi : i = x
      · rw [if_pos hxi, hxi]
      · rw [if_neg hxi]; exact h1 x (by omega)
    · rw [gt_set (by omega)]
      by_cases hxi : i = x
      · rw [if_pos hxi, hxi]
      · rw [if_neg hxi]; exact h2 x (by omega)
theorem rfwd_loop (hF : FF ≤ F) (hS : AllGood S) (hl : S.length ≤ 100000) (hj : 0 ≤ jp ∧ jp ≤ 400000) (hb : br ≤ 16) (bk : Sets) : ∀ (n N i : Nat) (f : Sets), i + n = S.length → n < N → f.length = S.length → AllGood f →
    (∀ j < S.length, ((∃ p, i ≤ p ∧ lk S br p j) → gt f j = gt S j) ∧ ((∀ p, i ≤ p → ¬ lk S br p j) → pF S br jp f j)) →
    ∃ f', ref03_Ray_L9 F S jp br bk N (i : Int) f = ref03_Ray_K3 F S jp br bk f' ∧ f'.length = S.length ∧ AllGood f' ∧ ∀ j < S.length, pF S br jp f' j := by
  intro n
  induction n with
  | zero =>
    intro N i f hi hN hf hfG hinv
    obtain ⟨N, rfl⟩ : ∃ N', N = N' + 1 := ⟨N - 1, by omega⟩
    refine ⟨f, ?_, hf, hfG, fun j hjl => (hinv j hjl).2 (fun p hp hk => by have := hk.1; omega)⟩
    show ref03_Ray_B9 F S jp br bk (ref03_Ray_L9 F S jp br bk N) (i : Int) f = _
    unfold ref03_Ray_B9
    rw [bifF (by simp; omega)]
  | succ n ih =>
    intro N i f hi hN hf hfG hinv
    obtain ⟨N, rfl⟩ : ∃ N', N = N' + 1 := ⟨N - 1, by omega⟩
    obtain ⟨r, hr, hcase⟩ := next_eq (S := S) (br := br) hF i (by omega) hl hb
    have hstep : ref03_Ray_L9 F S jp br bk (N + 1) (i : Int) f = ref03_Ray_B9 F S jp br bk (ref03_Ray_L9 F S jp br bk N) (i : Int) f := rfl
    rw [hstep]
    unfold ref03_Ray_B9
    rw [bifT (by simp; omega), hr, sb]
    rcases hcase with ⟨k, hk, rfl⟩ | ⟨rfl, hno⟩
    · have hkl := hk.2.1
      have hik := hk.1
      have hd := dpos hj hb hk
      rw [bifT (by simp), getG (by omega), getG (by omega), ckb (by omega), ckb (by omega), ref_near_eq hF (hS.gt k) (hfG.gt i) hd, getG (by omega), setG (by omega)]
      unfold ref03_Ray_K10
      rw [ckb (by omega), natS]
      refine ih N (i + 1) _ (by omega) (by omega) (by simpa using hf) (hfG.set k ((hS.gt k).nr (hfG.gt i) hd.1)) (fun j hjl => ⟨?_, ?_⟩)
      · rintro ⟨p, hp, hpj⟩
        have hne : k ≠ j := fun h => by subst h; have := lk_left hk hpj; omega
        rw [gt_set (by omega), if_neg hne]
        exact (hinv j hjl).1 ⟨p, by omega, hpj⟩
      · intro hnop
        by_cases hkj : k = j
        · subst hkj
          refine ⟨fun i' hi' => ?_, fun h => absurd hk (h i)⟩
          have := lk_left hk hi'
          subst this
          rw [gt_set (by omega), if_pos rfl, gt_set (by omega), if_neg (by omega)]
        · have hnoi : ¬ lk S br i j := fun h => hkj (lk_right hk h)
          have hold := (hinv j hjl).2 (fun p hp hpj => by
            by_cases hpi : p = i
            · subst hpi; exact hnoi hpj
            · exact hnop p (by omega) hpj)
          refine ⟨fun i' hi' => ?_, fun h => ?_⟩
          · have hlt : i' < i := by
              apply Nat.lt_of_not_le
              intro hle
              by_cases hpi : i' = i
              · subst hpi; exact hnoi hi'
              · exact hnop i' (by omega) hi'
            rw [gt_set (by omega), if_neg hkj, gt_set (by omega), if_neg (by omega)]
            exact hold.1 i' hi'
          · rw [gt_set (by omega), if_neg hkj]; exact hold.2 h
    · rw [bifF (by simp)]
      unfold ref03_Ray_K10
      rw [ckb (by omega), natS]
      refine ih N (i + 1) f (by omega) (by omega) hf hfG (fun j hjl => ⟨?_, ?_⟩)
      · rintro ⟨p, hp, hpj⟩
        exact (hinv j hjl).1 ⟨p, by omega, hpj⟩
      · intro hnop
        exact (hinv j hjl).2 (fun p hp hpj => by
          by_cases hpi : p = i
          · subst hpi; exact hno j hpj
          · exact hnop p (by omega) hpj)
theorem rbwd_loop (hF : FF ≤ F) (hS : AllGood S) (hl : S.length ≤ 100000) (hj : 0 ≤ jp ∧ jp ≤ 400000) (hb : br ≤ 16) (f : Sets) : ∀ (m N : Nat) (b : Sets), m ≤ S.length → m < N → b.length = S.length → AllGood b →
    (∀ j < S.length, (j < m → gt b j = gt S j) ∧ (m ≤ j → pB S br jp b j)) →
    ∃ b', ref03_Ray_L7 F S jp br f N b ((m : Int) - 1) = ref03_Ray_K4 F S f b' ∧ b'.length = S.length ∧ AllGood b' ∧ ∀ j < S.length, pB S br jp b' j := by
  intro m
  induction m with
  | zero =>
    intro N b hm hN hbl hbG hinv
    obtain ⟨N, rfl⟩ : ∃ N', N = N' + 1 := ⟨N - 1, by omega⟩
    refine ⟨b, ?_, hbl, hbG, fun j hjl => (hinv j hjl).2 (by omega)⟩
    show ref03_Ray_B7 F S jp br f (ref03_Ray_L7 F S jp br f N) b _ = _
    unfold ref03_Ray_B7
    rw [bifF (by simp)]
  | succ m ih =>
    intro N b hm hN hbl hbG hinv
    obtain ⟨N, rfl⟩ : ∃ N', N = N' + 1 := ⟨N - 1, by omega⟩
    have e : (((m + 1 : Nat) : Int) - 1) = (m : Int) := by omega
    rw [e]
    obtain ⟨r, hr, hcase⟩ := next_eq (S := S) (br := br) hF m (by omega) hl hb
    have hstep : ref03_Ray_L7 F S jp br f (N + 1) b (m : Int) = ref03_Ray_B7 F S jp br f (ref03_Ray_L7 F S jp br f N) b (m : Int) := rfl
    rw [hstep]
    unfold ref03_Ray_B7
    rw [bifT (by simp), hr, sb]
    rcases hcase with ⟨k, hk, rfl⟩ | ⟨rfl, hno⟩
    · have hkl := hk.2.1
      have hik := hk.1
      have hd := dpos hj hb hk
      rw [bifT (by simp), getG (by omega), getG (by omega), ckb (by omega), ckb (by omega), ref_near_eq hF (hS.gt m) (hbG.gt k) hd, getG (by omega), setG (by omega)]
      unfold ref03_Ray_K8
      rw [ckb (by omega)]
      refine ih N _ (by omega) (by omega) (by simpa using hbl) (hbG.set m ((hS.gt m).nr (hbG.gt k) hd.1)) (fun j hjl => ⟨fun hjm => ?_, fun hjm => ?_⟩)
      · rw [gt_set (by omega), if_neg (by omega)]; exact (hinv j hjl).1 (by omega)
      · by_cases hmj : m = j
        · subst hmj
          refine ⟨fun k' hk' => ?_, fun h => absurd hk (h k)⟩
          have := lk_right hk hk'
          subst this
          rw [gt_set (by omega), if_pos rfl, gt_set (by omega), if_neg (by omega)]
        · have hold := (hinv j hjl).2 (by omega)
          refine ⟨fun k' hk' => ?_, fun h => ?_⟩
          · have := hk'.1
            rw [gt_set (by omega), if_neg hmj, gt_set (by omega), if_neg (by omega)]
            exact hold.1 k' hk'
          · rw [gt_set (by omega), if_neg hmj]; exact hold.2 h
    · rw [bifF (by simp)]
      unfold ref03_Ray_K8
      rw [ckb (by omega)]
      refine ih N b (by omega) (by omega) hbl hbG (fun j hjl => ⟨fun hjm => (hinv j hjl).1 (by omega), fun hjm => ?_⟩)
      by_cases hmj : m = j
      · subst hmj
        exact ⟨fun k hk => absurd hk (hno k), fun _ => (hinv m hjl).1 (by omega)⟩
      · exact (hinv j hjl).2 (by omega)
theorem rout_loop (hF : FF ≤ F) (hl : S.length ≤ 100000) {f b : Sets} (hfl : f.length = S.length) (hbl : b.length = S.length) (hfG : AllGood f) (hbG : AllGood b) : ∀ (n N i : Nat) (acc : Sets), i + n = S.length → n < N → acc.length = i →
    ∃ o, ref03_Ray_L6 F S f b N acc (i : Int) = some (o, 0) ∧ o.length = S.length ∧ (∀ x < i, gt o x = gt acc x) ∧ ∀ x, i ≤ x → x < S.length → gt o x = mt (gt f x) (gt b x) := by
  intro n
  induction n with
  | zero =>
    intro N i acc hi hN ha
    obtain ⟨N, rfl⟩ : ∃ N', N = N' + 1 := ⟨N - 1, by omega⟩
    refine ⟨acc, ?_, by omega, fun x _ => rfl, fun x h1 h2 => by omega⟩
    show ref03_Ray_B6 F S f b (ref03_Ray_L6 F S f b N) acc (i : Int) = _
    unfold ref03_Ray_B6
    rw [bifF (by simp; omega)]
    rfl
  | succ n ih =>
    intro N i acc hi hN ha
    obtain ⟨N, rfl⟩ : ∃ N', N = N' + 1 := ⟨N - 1, by omega⟩
    have h1 := (hfG.gt i).len
    have h2 := (hbG.gt i).len
    obtain ⟨o, ho, hol, hlow, hhigh⟩ := ih N (i + 1) (acc ++ [mt (gt f i) (gt b i)]) (by omega) (by omega) (by simp [ha])
    have hgl : ∀ x < i, gt (acc ++ [mt (gt f i) (gt b i)]) x = gt acc x := by
      intro x hx
      unfold gt
      rw [List.getD_eq_getElem?_getD, List.getElem?_append_left (by omega), ← List.getD_eq_getElem?_getD]
    have hgi : gt (acc ++ [mt (gt f i) (gt b i)]) i = mt (gt f i) (gt b i) := by
      conv => lhs; unfold gt
      rw [List.getD_eq_getElem?_getD, List.getElem?_append_right (by omega), ha, Nat.sub_self]
      rfl
    refine ⟨o, ?_, hol, fun x hx => (hlow x (by omega)).trans (hgl x hx), fun x hx hxl => ?_⟩
    · show ref03_Ray_B6 F S f b (ref03_Ray_L6 F S f b N) acc (i : Int) = _
      unfold ref03_Ray_B6
      rw [bifT (by simp; omega), getG (by omega), getG (by omega), ref_meet_eq hF (by omega) (by omega), sb, apdb (by simp; omega), ckb (by omega), natS]
      exact ho
    · by_cases hxi : i = x
      · subst hxi; exact (hlow i (by omega)).trans hgi
      · exact hhigh x (by omega) hxl
/-- The document's sets of courses. -/
theorem ref_courses (hF : FF ≤ F) (hS : AllGood S) (hl : S.length ≤ 100000) (hj : 0 ≤ jp ∧ jp ≤ 400000) (hb : br ≤ 16) :
    ∃ f b o, ref03_Ray_K1 F S jp br 0 = some (o, 0) ∧ o.length = S.length ∧ AllGood f ∧ AllGood b ∧ (∀ j < S.length, pF S br jp f j) ∧ (∀ j < S.length, pB S br jp b j) ∧ ∀ x < S.length, gt o x = mt (gt f x) (gt b x) := by
  have hF' := hF
  unfold FF at hF'
  have hmk : mkI 24 ((S.length : Nat) : Int) ([] : List api_Span) = some (List.replicate S.length []) := by
    unfold mkI
    rw [if_pos (by omega), Int.toNat_natCast]
  obtain ⟨f, h1, h2, h3, h4⟩ := rfwd_loop hF hS hl hj hb S S.length F 0 S (by omega) (by omega) rfl hS (fun j hjl => ⟨fun _ => rfl, fun hno => ⟨fun i hi => absurd hi (hno i (by omega)), fun _ => rfl⟩⟩)
  obtain ⟨b, g1, g2, g3, g4⟩ := rbwd_loop hF hS hl hj hb f S.length F S (Nat.le_refl _) (by omega) rfl hS (fun j hjl => ⟨fun _ => rfl, fun hle => by omega⟩)
  obtain ⟨o, o1, o2, _, o4⟩ := rout_loop hF hl h2 g2 h3 g3 S.length F 0 [] (by omega) (by omega) rfl
  refine ⟨f, b, o, ?_, o2, h3, g3, h4, g4, fun x hx => o4 x (by omega) hx⟩
  unfold ref03_Ray_K1
  refine Eq.trans (bifF rfl) ?_
  rw [hmk, sb, sb]
  have hinit := init_loop (jp := jp) (br := br) hF hS hl S.length F 0 (List.replicate S.length []) (List.replicate S.length []) (by omega) (by omega) (by simp) (by simp) (fun x hx => by omega) (fun x hx => by omega)
  refine Eq.trans hinit ?_
  unfold ref03_Ray_K2
  refine Eq.trans h1 ?_
  unfold ref03_Ray_K3
  rw [ckb (by omega)]
  refine Eq.trans g1 ?_
  unfold ref03_Ray_K4
  exact o1
end
end Go.Proofs.Ytbhjgebjojdohaa
/- Chapter 3, plain: the law FoldRays. -/
namespace Go.Proofs.Ytbhjgebjojdohaa
open Go Go.RowKit Go.Eng
set_option maxRecDepth 10000
set_option linter.unusedVariables false
set_option linter.unusedSimpArgs false
section
variable {S : Sets} {br jp : Int} {F : Nat}
/-! ### Which gates are known -/
def Kn (S : Sets) : List Nat := (List.range S.length).filter (ne S)
def toI (l : List Nat) : List Int := List.map (fun (x : Nat) => (x : Int)) l
theorem Kn_len : (Kn S).length ≤ S.length := by
  unfold Kn
  have := List.length_filter_le (ne S) (List.range S.length)
  simpa using this
theorem Kn_mem {x : Nat} : x ∈ Kn S ↔ x < S.length ∧ ne S x = true := by unfold Kn; rw [List.mem_filter, List.mem_range]
theorem Kn_sorted : (Kn S).Pairwise (· < ·) := List.pairwise_lt_range.filter _
def kn (S : Sets) (t : Nat) : Nat := (Kn S).getD t 0
theorem kn_get {t : Nat} (h : t < (Kn S).length) : kn S t ∈ Kn S ∧ (Kn S)[t]? = some (kn S t) := by
  unfold kn
  rw [List.getD_eq_getElem?_getD, List.getElem?_eq_getElem h]
  exact ⟨List.getElem_mem h, rfl⟩
theorem kn_lt {t u : Nat} (h : t < u) (hu : u < (Kn S).length) : kn S t < kn S u := by
  have := List.pairwise_iff_getElem.1 (Kn_sorted (S := S)) t u (by omega) hu h
  unfold kn
  rw [List.getD_eq_getElem?_getD, List.getD_eq_getElem?_getD, List.getElem?_eq_getElem (by omega : t < (Kn S).length), List.getElem?_eq_getElem hu]
  exact this
theorem kn_of {x : Nat} (h : x < S.length) (hn : ne S x = true) : ∃ t, t < (Kn S).length ∧ kn S t = x := by
  obtain ⟨t, ht, e⟩ := List.mem_iff_getElem.1 (Kn_mem.2 ⟨h, hn⟩)
  refine ⟨t, ht, ?_⟩
  unfold kn
  rw [List.getD_eq_getElem?_getD, List.getElem?_eq_getElem ht, e]; rfl
theorem kn_le {t u : Nat} (h : t ≤ u) (hu : u < (Kn S).length) : kn S t ≤ kn S u := by
  by_cases e : t = u
  · rw [e]; exact Nat.le_refl _
  · exact Nat.le_of_lt (kn_lt (by omega) hu)
theorem between {t x : Nat} (ht : t + 1 < (Kn S).length) (h1 : kn S t < x) (h2 : x < kn S (t + 1)) : ne S x = false := by
  cases hx : ne S x with
  | false => rfl
  | true =>
    have hb := (Kn_mem.1 (kn_get ht).1).1
    obtain ⟨u, hu, rfl⟩ := kn_of (by omega) hx
    by_cases hut : u ≤ t
    · have := kn_le hut (by omega : t < (Kn S).length); omega
    · have := kn_le (by omega : t + 1 ≤ u) hu; omega
theorem before {x : Nat} (h0 : 0 < (Kn S).length) (h : x < kn S 0) : ne S x = false := by
  cases hx : ne S x with
  | false => rfl
  | true =>
    have hb := (Kn_mem.1 (kn_get h0).1).1
    obtain ⟨u, hu, rfl⟩ := kn_of (by omega) hx
    have := kn_le (Nat.zero_le u) hu; omega
theorem behind {x : Nat} (h0 : 0 < (Kn S).length) (hxl : x < S.length) (h : kn S ((Kn S).length - 1) < x) : ne S x = false := by
  cases hx : ne S x with
  | false => rfl
  | true =>
    obtain ⟨u, hu, rfl⟩ := kn_of hxl hx
    have := kn_le (S := S) (by omega : u ≤ (Kn S).length - 1) (by omega); omega
theorem known_loop (hl : S.length ≤ 100000) : ∀ (n N i : Nat) (acc : List Int), i + n = S.length → n < N → acc.length ≤ i →
    fold_known_L2 S N acc (i : Int) = some (acc ++ toI ((List.range' i n).filter (ne S))) := by
  intro n
  induction n with
  | zero =>
    intro N i acc hi hN ha
    obtain ⟨N, rfl⟩ : ∃ N', N = N' + 1 := ⟨N - 1, by omega⟩
    show fold_known_B2 S (fold_known_L2 S N) acc (i : Int) = _
    unfold fold_known_B2
    rw [bifF (by simp; omega)]
    simp [fold_known_K1, toI]
  | succ n ih =>
    intro N i acc hi hN ha
    obtain ⟨N, rfl⟩ : ∃ N', N = N' + 1 := ⟨N - 1, by omega⟩
    show fold_known_B2 S (fold_known_L2 S N) acc (i : Int) = _
    unfold fold_known_B2 fold_known_K3
    rw [bifT (by simp; omega), getG (by omega), List.range'_succ]
    by_cases h : ne S i = true
    · have h' := h
      unfold ne at h'
      rw [bifT (by simpa using h'), apdb (by simp; omega), ckb (by omega), natS, ih N (i + 1) _ (by omega) (by omega) (by simp; omega), List.filter_cons_of_pos h]
      simp [toI]
    · have h' : ne S i = false := by simpa using h
      have h2 := h'
      unfold ne at h2
      rw [bifF (by simpa using h2), ckb (by omega), natS, ih N (i + 1) _ (by omega) (by omega) (by omega), List.filter_cons_of_neg h]
theorem known_eq (hF : FF ≤ F) (hl : S.length ≤ 100000) : fold_known F S = some (toI (Kn S)) := by
  unfold FF at hF
  unfold fold_known
  have := known_loop (S := S) hl S.length F 0 [] (by omega) (by omega) (by simp)
  refine Eq.trans this ?_
  unfold Kn
  rw [List.range_eq_range', List.nil_append]
theorem getK {β : Type} {t : Nat} (h : t < (Kn S).length) (k : Int → Option β) : (getI (toI (Kn S)) (t : Int)).bind k = k ((kn S t : Nat) : Int) := by
  rw [getb 0 (by simp [toI]; omega), Int.toNat_natCast]
  have : (toI (Kn S)).getD t 0 = ((kn S t : Nat) : Int) := by
    unfold toI
    rw [List.getD_eq_getElem?_getD, List.getElem?_map, (kn_get h).2]; rfl
  rw [this]
/-! ### A pass -/
theorem pass_eq (hF : FF ≤ F) (hl : S.length ≤ 100000) (hj : 0 ≤ jp ∧ jp ≤ 400000) (hb : br ≤ 16) {l : Sets} (hll : l.length = S.length) (hG : AllGood l) {p q : Nat} (hp : p < (Kn S).length) (hq : q < (Kn S).length) (D : Int) (hD : D = if ((kn S q : Int) - kn S p) > ((kn S p : Int) - kn S q) then ((kn S q : Int) - kn S p) else ((kn S p : Int) - kn S q)) :
    fold_Ray_1 F (p : Int) (q : Int) (toI (Kn S)) br l jp = some (if D ≤ br then l.set (kn S q) (nr (gt l (kn S q)) (gt l (kn S p)) (jp * D)) else l) := by
  have hp1 := (Kn_mem.1 (kn_get hp).1).1
  have hq1 := (Kn_mem.1 (kn_get hq).1).1
  unfold fold_Ray_1
  rw [getK hp, getK hq, ckb (by omega), getK hq, getK hp, ckb (by omega)]
  have hD2 : (if ((kn S q : Int) - (kn S p : Int)) > ((kn S p : Int) - (kn S q : Int)) then ((kn S q : Int) - (kn S p : Int)) else ((kn S p : Int) - (kn S q : Int))) = D := hD.symm
  rw [hD2]
  by_cases h : D ≤ br
  · have hd0 : 0 ≤ D := by rw [hD]; split <;> omega
    have hd : 0 ≤ jp * D ∧ jp * D ≤ 1000000000 := by
      constructor
      · exact Int.mul_nonneg hj.1 hd0
      · have h2 : jp * D ≤ jp * 16 := Int.mul_le_mul_of_nonneg_left (by omega) hj.1
        omega
    rw [bifT (by simpa using h), getK hq, getK hq, getG (by omega), getK hp, getG (by omega), ckb (by omega), near_eq hF (hG.gt _) (hG.gt _) hd, sb, getG (by omega), setG (by omega), if_pos h]
  · rw [bifF (by simpa using h), if_neg h]
theorem fwd_loop (hF : FF ≤ F) (hS : AllGood S) (hl : S.length ≤ 100000) (hj : 0 ≤ jp ∧ jp ≤ 400000) (hb : br ≤ 16) : ∀ (n N t : Nat) (l : Sets), t + n = (Kn S).length → 1 ≤ t → n < N → l.length = S.length → AllGood l →
    (∀ j < S.length, (j ≤ kn S (t - 1) → pF S br jp l j) ∧ (kn S (t - 1) < j → gt l j = gt S j)) →
    ∃ f, fold_Ray_L5 F jp br (toI (Kn S)) N l (t : Int) = fold_Ray_K2 F jp br (toI (Kn S)) f ∧ f.length = S.length ∧ AllGood f ∧ ∀ j < S.length, pF S br jp f j := by
  intro n
  induction n with
  | zero =>
    intro N t l ht h1 hN hll hG hinv
    obtain ⟨N, rfl⟩ : ∃ N', N = N' + 1 := ⟨N - 1, by omega⟩
    refine ⟨l, ?_, hll, hG, fun j hjl => ?_⟩
    · show fold_Ray_B5 F jp br (toI (Kn S)) (fold_Ray_L5 F jp br (toI (Kn S)) N) l (t : Int) = _
      unfold fold_Ray_B5
      rw [bifF (by simp [toI]; omega)]
    · by_cases h : j ≤ kn S (t - 1)
      · exact (hinv j hjl).1 h
      · have hb' := behind (S := S) (x := j) (by omega) hjl (by rw [show (Kn S).length - 1 = t - 1 by omega]; omega)
        refine ⟨fun i hi => ?_, fun _ => (hinv j hjl).2 (by omega)⟩
        have := hi.2.2.2.1
        rw [hb'] at this; cases this
  | succ n ih =>
    intro N t l ht h1 hN hll hG hinv
    obtain ⟨N, rfl⟩ : ∃ N', N = N' + 1 := ⟨N - 1, by omega⟩
    have hstep : fold_Ray_L5 F jp br (toI (Kn S)) (N + 1) l (t : Int) = fold_Ray_B5 F jp br (toI (Kn S)) (fold_Ray_L5 F jp br (toI (Kn S)) N) l (t : Int) := rfl
    rw [hstep]
    unfold fold_Ray_B5
    have e1 : ((t : Int) - 1) = ((t - 1 : Nat) : Int) := by omega
    have hKl := Kn_len (S := S)
    have hlt := kn_lt (S := S) (t := t - 1) (u := t) (by omega) (by omega)
    have hA := Kn_mem.1 (kn_get (S := S) (t := t - 1) (by omega)).1
    have hB := Kn_mem.1 (kn_get (S := S) (t := t) (by omega)).1
    have hbt : ∀ x, kn S (t - 1) < x → x < kn S t → ne S x = false := fun x g1 g2 => between (S := S) (t := t - 1) (by omega) g1 (by rw [show t - 1 + 1 = t by omega]; exact g2)
    have hD := pass_eq hF hl hj hb hll hG (p := t - 1) (q := t) (by omega) (by omega) ((kn S t : Int) - kn S (t - 1)) (by split <;> omega)
    rw [bifT (by simp [toI]; omega), ckb (by omega), e1, hD, sb, ckb (by omega), natS]
    generalize hu : kn S (t - 1) = a at *
    generalize hv : kn S t = b at *
    have hpred : ∀ i, lk S br i b → i = a := by
      intro i hi
      rcases Nat.lt_trichotomy i a with hlt' | hlt' | hlt'
      · have := hi.2.2.2.2.1 a hlt' hlt; rw [this] at hA; exact absurd hA.2 (by simp)
      · exact hlt'
      · have := hbt i hlt' hi.1; have h3 := hi.2.2.1; rw [this] at h3; cases h3
    by_cases hlink : (b : Int) - a ≤ br
    · rw [if_pos hlink]
      have hk : lk S br a b := ⟨hlt, hB.1, hA.2, hB.2, hbt, hlink⟩
      have hd := dpos hj hb hk
      refine ih N (t + 1) _ (by omega) (by omega) (by omega) (by simpa using hll) (hG.set b ((hG.gt b).nr (hG.gt a) hd.1)) (fun j hjl => ?_)
      rw [show t + 1 - 1 = t by omega, hv]
      refine ⟨fun hjb => ?_, fun hjb => by rw [gt_set (by omega), if_neg (by omega)]; exact (hinv j hjl).2 (by omega)⟩
      by_cases hjb2 : b = j
      · subst hjb2
        refine ⟨fun i hi => ?_, fun h => absurd hk (h a)⟩
        have := hpred i hi
        subst this
        rw [gt_set (by omega), if_pos rfl, gt_set (by omega), if_neg (by omega), (hinv b hjl).2 (by omega)]
      · by_cases hja : j ≤ a
        · have hold := (hinv j hjl).1 hja
          refine ⟨fun i hi => ?_, fun h => ?_⟩
          · have := hi.1
            rw [gt_set (by omega), if_neg hjb2, gt_set (by omega), if_neg (by omega)]
            exact hold.1 i hi
          · rw [gt_set (by omega), if_neg hjb2]; exact hold.2 h
        · have hno := hbt j (by omega) (by omega)
          refine ⟨fun i hi => ?_, fun h => ?_⟩
          · have := hi.2.2.2.1; rw [hno] at this; cases this
          · rw [gt_set (by omega), if_neg hjb2]; exact (hinv j hjl).2 (by omega)
    · rw [if_neg hlink]
      refine ih N (t + 1) l (by omega) (by omega) (by omega) hll hG (fun j hjl => ?_)
      rw [show t + 1 - 1 = t by omega, hv]
      refine ⟨fun hjb => ?_, fun hjb => (hinv j hjl).2 (by omega)⟩
      by_cases hja : j ≤ a
      · exact (hinv j hjl).1 hja
      · refine ⟨fun i hi => ?_, fun _ => (hinv j hjl).2 (by omega)⟩
        by_cases hjb2 : j = b
        · subst hjb2
          have := hpred i hi
          subst this
          exact absurd hi.2.2.2.2.2 hlink
        · have hno := hbt j (by omega) (by omega)
          have := hi.2.2.2.1; rw [hno] at this; cases this
theorem bwd_loop (hF : FF ≤ F) (hS : AllGood S) (hl : S.length ≤ 100000) (hj : 0 ≤ jp ∧ jp ≤ 400000) (hb : br ≤ 16) {f : Sets} : ∀ (t N : Nat) (l : Sets), t < (Kn S).length → t < N → l.length = S.length → AllGood l →
    (∀ j < S.length, (kn S t ≤ j → pP S br jp f l j) ∧ (j < kn S t → gt l j = gt f j)) →
    ∃ p, fold_Ray_L4 F jp br (toI (Kn S)) N l (t : Int) = fold_Ray_K3 F p ∧ p.length = S.length ∧ AllGood p ∧ ∀ j < S.length, pP S br jp f p j := by
  intro t
  induction t with
  | zero =>
    intro N l ht hN hll hG hinv
    obtain ⟨N, rfl⟩ : ∃ N', N = N' + 1 := ⟨N - 1, by omega⟩
    refine ⟨l, ?_, hll, hG, fun j hjl => ?_⟩
    · show fold_Ray_B4 F jp br (toI (Kn S)) (fold_Ray_L4 F jp br (toI (Kn S)) N) l ((0 : Nat) : Int) = _
      unfold fold_Ray_B4
      rw [bifF (by simp)]
    · by_cases h : kn S 0 ≤ j
      · exact (hinv j hjl).1 h
      · have hno := before (S := S) (x := j) (by omega) (by omega)
        refine ⟨fun k hk => ?_, fun _ => (hinv j hjl).2 (by omega)⟩
        have := hk.2.2.1; rw [hno] at this; cases this
  | succ t ih =>
    intro N l ht hN hll hG hinv
    obtain ⟨N, rfl⟩ : ∃ N', N = N' + 1 := ⟨N - 1, by omega⟩
    have hstep : fold_Ray_L4 F jp br (toI (Kn S)) (N + 1) l ((t + 1 : Nat) : Int) = fold_Ray_B4 F jp br (toI (Kn S)) (fold_Ray_L4 F jp br (toI (Kn S)) N) l ((t + 1 : Nat) : Int) := rfl
    rw [hstep]
    unfold fold_Ray_B4
    have e1 : (((t + 1 : Nat) : Int) - 1) = (t : Int) := by omega
    have hlt := kn_lt (S := S) (t := t) (u := t + 1) (by omega) ht
    have hA := Kn_mem.1 (kn_get (S := S) (t := t) (by omega)).1
    have hB := Kn_mem.1 (kn_get (S := S) (t := t + 1) ht).1
    have hbt : ∀ x, kn S t < x → x < kn S (t + 1) → ne S x = false := fun x g1 g2 => between (S := S) ht g1 g2
    have hD := pass_eq hF hl hj hb hll hG (p := t + 1) (q := t) ht (by omega) ((kn S (t + 1) : Int) - kn S t) (by split <;> omega)
    have hpos : decide ((((t + 1 : Nat) : Int)) > 0) = true := by simp
    have hlen : (Kn S).length ≤ S.length := by unfold Kn; have := List.length_filter_le (ne S) (List.range S.length); simpa using this
    rw [hpos, cond_true, ckb (by omega), e1, hD, sb, ckb (by omega)]
    generalize hu : kn S t = a at *
    generalize hv : kn S (t + 1) = b at *
    have hsucc : ∀ k, lk S br a k → k = b := by
      intro k hk
      rcases Nat.lt_trichotomy k b with hlt' | hlt' | hlt'
      · have := hbt k hk.1 hlt'; have h3 := hk.2.2.2.1; rw [this] at h3; cases h3
      · exact hlt'
      · have := hk.2.2.2.2.1 b hlt hlt'; rw [this] at hB; exact absurd hB.2 (by simp)
    by_cases hlink : (b : Int) - a ≤ br
    · rw [if_pos hlink]
      have hk : lk S br a b := ⟨hlt, hB.1, hA.2, hB.2, hbt, hlink⟩
      have hd := dpos hj hb hk
      refine ih N _ (by omega) (by omega) (by simpa using hll) (hG.set a ((hG.gt a).nr (hG.gt b) hd.1)) (fun j hjl => ⟨fun hja => ?_, fun hja => by rw [gt_set (by omega), if_neg (by omega)]; exact (hinv j hjl).2 (by omega)⟩)
      by_cases hja2 : a = j
      · subst hja2
        refine ⟨fun k hk' => ?_, fun h => absurd hk (h b)⟩
        have := hsucc k hk'
        subst this
        rw [gt_set (by omega), if_pos rfl, gt_set (by omega), if_neg (by omega), (hinv a hjl).2 (by omega)]
      · by_cases hjb : b ≤ j
        · have hold := (hinv j hjl).1 hjb
          refine ⟨fun k hk' => ?_, fun h => ?_⟩
          · have := hk'.1
            rw [gt_set (by omega), if_neg hja2, gt_set (by omega), if_neg (by omega)]
            exact hold.1 k hk'
          · rw [gt_set (by omega), if_neg hja2]; exact hold.2 h
        · have hno := hbt j (by omega) (by omega)
          refine ⟨fun k hk' => ?_, fun h => ?_⟩
          · have := hk'.2.2.1; rw [hno] at this; cases this
          · rw [gt_set (by omega), if_neg hja2]; exact (hinv j hjl).2 (by omega)
    · rw [if_neg hlink]
      refine ih N l (by omega) (by omega) hll hG (fun j hjl => ⟨fun hja => ?_, fun hja => (hinv j hjl).2 (by omega)⟩)
      by_cases hjb : b ≤ j
      · exact (hinv j hjl).1 hjb
      · refine ⟨fun k hk' => ?_, fun _ => (hinv j hjl).2 (by omega)⟩
        by_cases hja2 : j = a
        · subst hja2
          have := hsucc k hk'
          subst this
          exact absurd hk'.2.2.2.2.2 hlink
        · have hno := hbt j (by omega) (by omega)
          have := hk'.2.2.1; rw [hno] at this; cases this
theorem back_loop (hF : FF ≤ F) (hl : S.length ≤ 100000) (hG : AllGood S) : ∀ (n N i : Nat), i + n = S.length → n < N → fold_back_L2 F S N (S.take i) (i : Int) = some S := by
  intro n
  induction n with
  | zero =>
    intro N i hi hN
    obtain ⟨N, rfl⟩ : ∃ N', N = N' + 1 := ⟨N - 1, by omega⟩
    show fold_back_B2 F S (fold_back_L2 F S N) (S.take i) (i : Int) = _
    unfold fold_back_B2
    rw [bifF (by simp; omega), List.take_of_length_le (by omega)]
    rfl
  | succ n ih =>
    intro N i hi hN
    obtain ⟨N, rfl⟩ : ∃ N', N = N' + 1 := ⟨N - 1, by omega⟩
    show fold_back_B2 F S (fold_back_L2 F S N) (S.take i) (i : Int) = _
    unfold fold_back_B2 slices_Clone_fold_speeds_api_Span
    have hlen := (hG.gt i).len
    rw [bifT (by simp; omega), getG (by omega), apdb (by simp; omega), List.nil_append, sb, apdb (by simp; omega), ckb (by omega), natS]
    have : S.take i ++ [gt S i] = S.take (i + 1) := by
      rw [List.take_add_one, List.getElem?_eq_getElem (by omega : i < S.length)]
      unfold gt
      rw [List.getD_eq_getElem?_getD, List.getElem?_eq_getElem (by omega : i < S.length)]
      rfl
    rw [this]
    exact ih N (i + 1) (by omega) (by omega)
/-- The program's sets of courses. -/
theorem prog_courses (hF : FF ≤ F) (hS : AllGood S) (hl : S.length ≤ 100000) (hj : 0 ≤ jp ∧ jp ≤ 400000) (hb : br ≤ 16) (e : Int) :
    ∃ f p, fold_Ray_K1 F jp br (S, e) 0 = some (p, 0) ∧ p.length = S.length ∧ AllGood f ∧ AllGood p ∧ (∀ j < S.length, pF S br jp f j) ∧ (∀ j < S.length, pP S br jp f p j) := by
  have hF' := hF
  unfold FF at hF'
  have hKl : (Kn S).length ≤ S.length := by unfold Kn; have := List.length_filter_le (ne S) (List.range S.length); simpa using this
  have hback : ∀ (p : Sets), p.length = S.length → AllGood p → fold_Ray_K3 F p = some (p, 0) := by
    intro p hpl hpG
    unfold fold_Ray_K3 fold_back
    have := back_loop (S := p) hF (by omega) hpG p.length F 0 (by omega) (by omega)
    have h9 : fold_back_L2 F p F [] 0 = some p := this
    rw [h9, sb]
  have hstart : fold_Ray_K1 F jp br (S, e) 0 = fold_Ray_L5 F jp br (toI (Kn S)) F S ((1 : Nat) : Int) := by
    unfold fold_Ray_K1
    refine Eq.trans (bifF rfl) ?_
    rw [known_eq hF hl, sb]
    rfl
  by_cases h0 : (Kn S).length = 0
  · have hno : ∀ x < S.length, ne S x = false := by
      intro x hx
      cases h : ne S x with
      | false => rfl
      | true => obtain ⟨t, ht, _⟩ := kn_of hx h; omega
    have hnolk : ∀ i j, ¬ lk S br i j := by
      intro i j h
      have := hno j h.2.1
      have h2 := h.2.2.2.1
      rw [this] at h2; cases h2
    refine ⟨S, S, ?_, rfl, hS, hS, fun j hjl => ⟨fun i hi => absurd hi (hnolk _ _), fun _ => rfl⟩, fun j hjl => ⟨fun k hk => absurd hk (hnolk _ _), fun _ => rfl⟩⟩
    rw [hstart]
    obtain ⟨N, hN⟩ : ∃ N', F = N' + 1 := ⟨F - 1, by omega⟩
    have e1 : fold_Ray_L5 F jp br (toI (Kn S)) F S ((1 : Nat) : Int) = fold_Ray_L5 F jp br (toI (Kn S)) (N + 1) S ((1 : Nat) : Int) := by rw [← hN]
    rw [e1]
    have hstep : fold_Ray_L5 F jp br (toI (Kn S)) (N + 1) S ((1 : Nat) : Int) = fold_Ray_B5 F jp br (toI (Kn S)) (fold_Ray_L5 F jp br (toI (Kn S)) N) S ((1 : Nat) : Int) := rfl
    rw [hstep]
    unfold fold_Ray_B5 fold_Ray_K2
    have hlen : (toI (Kn S)).length = 0 := by simp [toI, h0]
    rw [hlen, bifF (by decide), ckb (by decide)]
    have e2 : fold_Ray_L4 F jp br (toI (Kn S)) F S (((0 : Nat) : Int) - 1) = fold_Ray_L4 F jp br (toI (Kn S)) (N + 1) S (((0 : Nat) : Int) - 1) := by rw [← hN]
    rw [e2]
    have hstep2 : fold_Ray_L4 F jp br (toI (Kn S)) (N + 1) S (((0 : Nat) : Int) - 1) = fold_Ray_B4 F jp br (toI (Kn S)) (fold_Ray_L4 F jp br (toI (Kn S)) N) S (((0 : Nat) : Int) - 1) := rfl
    rw [hstep2]
    unfold fold_Ray_B4
    rw [bifF (by decide)]
    exact hback S rfl hS
  · have hi1 : ∀ j < S.length, j ≤ kn S 0 → ∀ i, ¬ lk S br i j := by
      intro j hjl hjk i hi
      have h5 := hi.1
      have := before (S := S) (x := i) (by omega) (by omega)
      have h6 := hi.2.2.1
      rw [this] at h6; cases h6
    have hi2 : ∀ j < S.length, kn S ((Kn S).length - 1) ≤ j → ∀ k, ¬ lk S br j k := by
      intro j hjl hjk k hk
      have h5 := hk.1
      have h7 := hk.2.1
      have := behind (S := S) (x := k) (by omega) h7 (by omega)
      have h6 := hk.2.2.2.1
      rw [this] at h6; cases h6
    obtain ⟨f, h1, h2, h3, h4⟩ := fwd_loop hF hS hl hj hb ((Kn S).length - 1) F 1 S (by omega) (by omega) (by omega) rfl hS (fun j hjl => ⟨fun hjk => ⟨fun i hi => absurd hi (hi1 j hjl hjk i), fun _ => rfl⟩, fun _ => rfl⟩)
    obtain ⟨p, g1, g2, g3, g4⟩ := bwd_loop (f := f) hF hS hl hj hb ((Kn S).length - 1) F f (by omega) (by omega) h2 h3 (fun j hjl => ⟨fun hjk => ⟨fun k hk => absurd hk (hi2 j hjl hjk k), fun _ => rfl⟩, fun _ => rfl⟩)
    refine ⟨f, p, ?_, g2, h3, g3, h4, g4⟩
    rw [hstart, h1]
    unfold fold_Ray_K2
    have hlen : (toI (Kn S)).length = (Kn S).length := by simp [toI]
    rw [hlen, ckb (by omega)]
    have e1 : (((Kn S).length : Nat) : Int) - 1 = (((Kn S).length - 1 : Nat) : Int) := by omega
    rw [e1, g1]
    exact hback p g2 g3
end
end Go.Proofs.Ytbhjgebjojdohaa
/- Chapter 3, plain: the law FoldRays, joined. -/
namespace Go.Proofs.Ytbhjgebjojdohaa
open Go Go.RowKit Go.Eng
set_option maxRecDepth 10000
set_option linter.unusedVariables false
set_option linter.unusedSimpArgs false
def gx (l : List api_Span) (x : Nat) : api_Span := l.getD x default
theorem getS {β : Type} {l : List api_Span} {i : Nat} (hi : i < l.length) (k : api_Span → Option β) : (getI l (i : Int)).bind k = k (gx l i) := by
  rw [getb default (by omega), Int.toNat_natCast]; rfl
theorem okSp_not (s : api_Span) : (bif (bif (decide (s.Lo > s.Hi)) then true else (decide (s.Lo < (-200000)))) then true else (decide (s.Hi > 200000))) = !okSp s := by
  unfold okSp; rw [Bool.eq_iff_iff]; simp [cond_eq_ite]; omega
section
variable {S : Sets} {F : Nat}
end
end Go.Proofs.Ytbhjgebjojdohaa
/- Chapter 3, plain: integers one by one (for the law FoldCourses). -/
namespace Go.Proofs.Ytbhjgebjojdohaa
open Go Go.RowKit Go.Eng
set_option maxRecDepth 10000
set_option linter.unusedVariables false
set_option linter.unusedSimpArgs false
abbrev V80 := VecN Bool 80
def vb (v : V80) (k : Nat) : Bool := v.1.getD k false
theorem vb_ext {v w : V80} (h : ∀ k < 80, vb v k = vb w k) : v = w := by
  apply Subtype.ext
  apply List.ext_getElem (by rw [v.2, w.2])
  intro i h1 h2
  have := h i (by rw [v.2] at h1; exact h1)
  unfold vb at this
  rw [List.getD_eq_getElem?_getD, List.getD_eq_getElem?_getD, List.getElem?_eq_getElem h1, List.getElem?_eq_getElem h2] at this
  exact this
theorem getVb {β : Type} {v : V80} {i : Int} (h : 0 ≤ i ∧ i < 80) (k : Bool → Option β) : (getV v i).bind k = k (vb v i.toNat) := by
  unfold getV
  rw [getb false (by rw [v.2]; omega)]; rfl
theorem getV1 {v : V80} {i : Int} (h : 0 ≤ i ∧ i < 80) : getV v i = some (vb v i.toNat) := by
  have := getVb (v := v) h (fun b => some b)
  simpa using this
theorem setV1 (v : V80) {i : Int} (h : 0 ≤ i ∧ i < 80) (u : Bool) : ∃ w, setV v i u = some w ∧ ∀ k < 80, vb w k = if k = i.toNat then u else vb v k := by
  unfold setV
  rw [if_pos (by omega)]
  refine ⟨_, rfl, fun k hk => ?_⟩
  show (v.1.set i.toNat u).getD k false = _
  have hl := v.2
  unfold vb
  rw [List.getD_eq_getElem?_getD, List.getD_eq_getElem?_getD, List.getElem?_set]
  by_cases e : i.toNat = k
  · rw [if_pos e, if_pos e.symm, if_pos (by omega)]; rfl
  · rw [if_neg e, if_neg (fun h => e h.symm)]
/-- The integers that a set has. -/
def dt (l : List api_Span) (k : Nat) : Bool := l.any fun s => decide (s.Lo ≤ (k : Int) - 20 ∧ (k : Int) - 20 ≤ s.Hi)
theorem dt_mem {l : List api_Span} {k : Nat} : dt l k = true ↔ mem (2 * ((k : Int) - 20)) l := by
  unfold dt mem inS
  rw [List.any_eq_true]
  constructor
  · rintro ⟨s, hs, h⟩
    have := of_decide_eq_true h
    exact ⟨s, hs, by omega, by omega⟩
  · rintro ⟨s, hs, h1, h2⟩
    exact ⟨s, hs, decide_eq_true (by omega)⟩
def Dt (l : List api_Span) : V80 := ⟨(List.range 80).map (dt l), by simp⟩
theorem vb_Dt {l : List api_Span} {k : Nat} (h : k < 80) : vb (Dt l) k = dt l k := by
  unfold vb Dt
  rw [List.getD_eq_getElem?_getD, List.getElem?_map, List.getElem?_range h]; rfl
theorem vb_default {k : Nat} : vb (default : V80) k = false := by
  show (List.replicate 80 (default : Bool)).getD k false = false
  rw [List.getD_eq_getElem?_getD, List.getElem?_replicate]
  split <;> rfl
section
variable {F : Nat}
/-! ### dots -/
theorem dots_in (X : Int) (k2 : V80 → Int → Option V80) (s : api_Span) (hs : -1000000 ≤ s.Lo ∧ s.Hi ≤ 1000000) : ∀ (n N : Nat) (v : V80) (x : Int), n < N → -1000000 ≤ x → (s.Hi < x ∨ 60 ≤ x ∨ (60 - x).toNat ≤ n) →
    ∃ w, law03_dots_L4 X k2 s N v x = law03_dots_K3 X k2 w ∧ ∀ k < 80, vb w k = (vb v k || decide (x ≤ (k : Int) - 20 ∧ (k : Int) - 20 ≤ s.Hi)) := by
  intro n
  induction n with
  | zero =>
    intro N v x hN hx h
    obtain ⟨N, rfl⟩ : ∃ N', N = N' + 1 := ⟨N - 1, by omega⟩
    have h' : s.Hi < x ∨ 60 ≤ x := by omega
    refine ⟨v, ?_, fun k hk => ?_⟩
    · show law03_dots_B4 X k2 s (law03_dots_L4 X k2 s N) v x = _
      unfold law03_dots_B4
      refine bifF ?_
      cases h' with
      | inl h => have e : decide (x ≤ s.Hi) = false := by simpa using h
                 rw [e]; rfl
      | inr h => have e : decide (x < 60) = false := by simpa using h
                 rw [e]; cases decide (x ≤ s.Hi) <;> rfl
    · have e : decide (x ≤ (k : Int) - 20 ∧ (k : Int) - 20 ≤ s.Hi) = false := decide_eq_false (by omega)
      rw [e, Bool.or_false]
  | succ n ih =>
    intro N v x hN hx h
    obtain ⟨N, rfl⟩ : ∃ N', N = N' + 1 := ⟨N - 1, by omega⟩
    have step : law03_dots_L4 X k2 s (N + 1) v x = law03_dots_B4 X k2 s (law03_dots_L4 X k2 s N) v x := rfl
    rw [step]
    unfold law03_dots_B4
    by_cases h1 : x ≤ s.Hi ∧ x < 60
    · have hc : (bif decide (x ≤ s.Hi) then decide (x < 60) else false) = true := by
        rw [decide_eq_true h1.1, decide_eq_true h1.2]; rfl
      by_cases h2 : -20 ≤ x
      · obtain ⟨u, hu, hu2⟩ := setV1 v (i := x - (-20)) (by omega) true
        obtain ⟨w, hw, hw2⟩ := ih N u (x + 1) (by omega) (by omega) (by omega)
        refine ⟨w, ?_, fun k hk => ?_⟩
        · refine Eq.trans (bifT hc) ?_
          refine Eq.trans (bifT (decide_eq_true h2)) ?_
          rw [ckb (by omega), getVb (by omega), hu, sb]
          unfold law03_dots_K5
          rw [ckb (by omega)]
          exact hw
        · rw [hw2 k hk, hu2 k hk]
          by_cases e : k = (x - (-20)).toNat
          · rw [if_pos e, decide_eq_true (p := x ≤ (k : Int) - 20 ∧ (k : Int) - 20 ≤ s.Hi) (by omega)]; simp
          · rw [if_neg e]
            congr 1
            rw [decide_eq_decide]
            omega
      · obtain ⟨w, hw, hw2⟩ := ih N v (x + 1) (by omega) (by omega) (by omega)
        refine ⟨w, ?_, fun k hk => ?_⟩
        · refine Eq.trans (bifT hc) ?_
          refine Eq.trans (bifF (decide_eq_false (by omega))) ?_
          unfold law03_dots_K5
          rw [ckb (by omega)]
          exact hw
        · rw [hw2 k hk]
          congr 1
          rw [decide_eq_decide]
          omega
    · refine ⟨v, ?_, fun k hk => ?_⟩
      · refine bifF ?_
        by_cases h2 : x ≤ s.Hi
        · rw [decide_eq_true h2, decide_eq_false (by omega)]; rfl
        · rw [decide_eq_false h2]; rfl
      · have e : decide (x ≤ (k : Int) - 20 ∧ (k : Int) - 20 ≤ s.Hi) = false := decide_eq_false (by omega)
        rw [e, Bool.or_false]
theorem dots_out (hF : FF ≤ F) (l : List api_Span) (hl : l.length ≤ 100000) (hs : ∀ s ∈ l, -1000000 ≤ s.Lo ∧ s.Hi ≤ 1000000) : ∀ (n N i : Nat) (v : V80), i + n = l.length → n < N →
    (∀ k < 80, vb v k = dt (l.take i) k) → law03_dots_L2 F l N v (i : Int) = some (Dt l) := by
  have hF' := hF
  unfold FF at hF'
  intro n
  induction n with
  | zero =>
    intro N i v hi hN hv
    obtain ⟨N, rfl⟩ : ∃ N', N = N' + 1 := ⟨N - 1, by omega⟩
    show law03_dots_B2 F l (law03_dots_L2 F l N) v (i : Int) = _
    unfold law03_dots_B2
    rw [bifF (by simp; omega)]
    unfold law03_dots_K1
    congr 1
    apply vb_ext
    intro k hk
    rw [hv k hk, vb_Dt hk, List.take_of_length_le (by omega)]
  | succ n ih =>
    intro N i v hi hN hv
    obtain ⟨N, rfl⟩ : ∃ N', N = N' + 1 := ⟨N - 1, by omega⟩
    show law03_dots_B2 F l (law03_dots_L2 F l N) v (i : Int) = _
    unfold law03_dots_B2
    have hin : l[i]? = some (gx l i) := by
      unfold gx
      rw [List.getD_eq_getElem?_getD, List.getElem?_eq_getElem (by omega : i < l.length)]; rfl
    have hsi := hs (gx l i) (List.mem_of_getElem? hin)
    rw [bifT (by simp; omega), getS (by omega)]
    obtain ⟨w, hw, hw2⟩ := dots_in (i : Int) (law03_dots_L2 F l N) (gx l i) hsi 1000100 F v (gx l i).Lo (by omega) (by omega) (by omega)
    rw [hw]
    unfold law03_dots_K3
    rw [ckb (by omega), natS]
    refine ih N (i + 1) w (by omega) (by omega) fun k hk => ?_
    rw [hw2 k hk, hv k hk, List.take_add_one, hin]
    unfold dt
    rw [List.any_append]
    simp
theorem dots_eq (hF : FF ≤ F) (l : List api_Span) (hl : l.length ≤ 100000) (hs : ∀ s ∈ l, -1000000 ≤ s.Lo ∧ s.Hi ≤ 1000000) : law03_dots F l = some (Dt l) := by
  unfold law03_dots
  have hF' := hF
  unfold FF at hF'
  exact dots_out hF l hl hs l.length F 0 _ (by omega) (by omega) (fun k hk => by rw [vb_default]; rfl)
/-! ### beside -/
theorem beside_in (a b : V80) (d : Int) (hd : 0 ≤ d ∧ d ≤ 1000000000) (i : Nat) (hi : i < 80) (k2 : V80 → Int → Option V80) : ∀ (n N : Nat) (v : V80) (x : Int), n < N → 0 ≤ x → x ≤ 1000000000 → (80 - x).toNat ≤ n →
    ∃ w, law03_beside_L4 a b d (i : Int) k2 N v x = law03_beside_K3 (i : Int) k2 w ∧ (∀ k < 80, k ≠ i → vb w k = vb v k) ∧ (vb w i = true ↔ vb v i = true ∨ (vb a i = true ∧ ∃ q : Nat, x ≤ q ∧ (q : Int) ≤ i + d ∧ q < 80 ∧ vb b q = true)) := by
  intro n
  induction n with
  | zero =>
    intro N v x hN hx hx2 h
    obtain ⟨N, rfl⟩ : ∃ N', N = N' + 1 := ⟨N - 1, by omega⟩
    refine ⟨v, ?_, fun _ _ _ => rfl, ?_⟩
    · show law03_beside_B4 a b d (i : Int) k2 (law03_beside_L4 a b d (i : Int) k2 N) v x = _
      unfold law03_beside_B4
      have e : (bif decide (x ≤ (i : Int) + d) then decide (x < 80) else false) = false := by
        rw [decide_eq_false (p := x < 80) (by omega)]; cases decide (x ≤ (i : Int) + d) <;> rfl
      rw [ckb (by omega), e, gdF (g := false == true && true) rfl, sb]
      exact bifF rfl
    · constructor
      · intro h; exact .inl h
      · rintro (h | ⟨_, q, h1, h2, h3, _⟩)
        · exact h
        · omega
  | succ n ih =>
    intro N v x hN hx hx2 h
    obtain ⟨N, rfl⟩ : ∃ N', N = N' + 1 := ⟨N - 1, by omega⟩
    have step : law03_beside_L4 a b d (i : Int) k2 (N + 1) v x = law03_beside_B4 a b d (i : Int) k2 (law03_beside_L4 a b d (i : Int) k2 N) v x := rfl
    rw [step]
    unfold law03_beside_B4
    rw [ckb (by omega)]
    by_cases hc : x ≤ (i : Int) + d ∧ x < 80
    · have e : (bif decide (x ≤ (i : Int) + d) then decide (x < 80) else false) = true := by
        rw [decide_eq_true hc.1, decide_eq_true hc.2]; rfl
      rw [e, gdT (g := true == true && true) rfl, getVb (by omega), Int.toNat_natCast]
      rcases Bool.eq_false_or_eq_true (vb a i) with ha | ha
      case inr =>
        refine ⟨v, by rw [ha]; exact bifF rfl, fun _ _ _ => rfl, ?_⟩
        rw [ha]; simp
      case inl =>
        obtain ⟨u, hu, hu2⟩ := setV1 v (i := (i : Int)) (by omega) (bif vb v i then true else vb b x.toNat)
        rw [Int.toNat_natCast] at hu2
        obtain ⟨w, hw, hw2, hw3⟩ := ih N u (x + 1) (by omega) (by omega) (by omega) (by omega)
        refine ⟨w, ?_, fun k hk hne => ?_, ?_⟩
        · rw [ha]
          refine Eq.trans (bifT rfl) ?_
          rw [getVb (by omega), Int.toNat_natCast]
          have hg : gd (vb v i == false && true) (getV b x) default = some (bif vb v i then default else vb b x.toNat) := by
            cases vb v i with
            | true => rfl
            | false => rw [gdT (g := false == false && true) rfl, getV1 (by omega)]; rfl
          rw [hg, sb, getVb (by omega)]
          have hv : setV v (i : Int) (bif vb v i then true else (bif vb v i then default else vb b x.toNat)) = some u := by
            rw [← hu]; congr 1; cases vb v i <;> rfl
          refine Eq.trans (congrArg (fun o => Option.bind o _) hv) ?_
          rw [sb, ckb (by omega)]
          exact hw
        · rw [hw2 k hk hne, hu2 k hk, if_neg hne]
        · rw [hw3, hu2 i hi, if_pos rfl]
          cases hvi : vb v i with
          | true => simp
          | false =>
            simp only [cond_false, Bool.false_eq_true, false_or]
            constructor
            · rintro (h1 | ⟨h1, q, h2, h3⟩)
              · exact ⟨ha, x.toNat, by omega, by omega, by omega, h1⟩
              · exact ⟨ha, q, by omega, h3⟩
            · rintro ⟨h1, q, h2, h3, h4, h5⟩
              by_cases e : (q : Int) = x
              · left
                rw [← e, Int.toNat_natCast]; exact h5
              · exact .inr ⟨h1, q, by omega, h3, h4, h5⟩
    · have e : (bif decide (x ≤ (i : Int) + d) then decide (x < 80) else false) = false := by
        by_cases h1 : x ≤ (i : Int) + d
        · rw [decide_eq_true h1, decide_eq_false (by omega)]; rfl
        · rw [decide_eq_false h1]; rfl
      refine ⟨v, ?_, fun _ _ _ => rfl, ?_⟩
      · rw [e, gdF (g := false == true && true) rfl, sb]
        exact bifF rfl
      · constructor
        · intro h; exact .inl h
        · rintro (h | ⟨_, q, h1, h2, h3, _⟩)
          · exact h
          · omega
theorem beside_out (hF : FF ≤ F) (a b : V80) (d : Int) (hd : 0 ≤ d ∧ d ≤ 1000000000) : ∀ (n N i : Nat) (v : V80), i + n = 80 → n < N → (∀ k < 80, i ≤ k → vb v k = false) →
    ∃ w, law03_beside_L2 F a b d N v (i : Int) = some w ∧ (∀ k < 80, k < i → vb w k = vb v k) ∧ ∀ k < 80, i ≤ k → (vb w k = true ↔ vb a k = true ∧ ∃ q : Nat, (k : Int) - d ≤ q ∧ (q : Int) ≤ k + d ∧ q < 80 ∧ vb b q = true) := by
  have hF' := hF
  unfold FF at hF'
  intro n
  induction n with
  | zero =>
    intro N i v hi hN hv
    obtain ⟨N, rfl⟩ : ∃ N', N = N' + 1 := ⟨N - 1, by omega⟩
    refine ⟨v, ?_, fun _ _ _ => rfl, fun k hk h => by omega⟩
    show law03_beside_B2 F a b d (law03_beside_L2 F a b d N) v (i : Int) = _
    unfold law03_beside_B2
    rw [bifF (decide_eq_false (by omega))]; rfl
  | succ n ih =>
    intro N i v hi hN hv
    obtain ⟨N, rfl⟩ : ∃ N', N = N' + 1 := ⟨N - 1, by omega⟩
    have step : law03_beside_L2 F a b d (N + 1) v (i : Int) = law03_beside_B2 F a b d (law03_beside_L2 F a b d N) v (i : Int) := rfl
    rw [step]
    unfold law03_beside_B2
    obtain ⟨u, hu, hu2, hu3⟩ := beside_in a b d hd i (by omega) (law03_beside_L2 F a b d N) 80 F v (if (i : Int) - d > 0 then (i : Int) - d else 0) (by omega) (by split <;> omega) (by split <;> omega) (by split <;> omega)
    obtain ⟨w, hw, hw2, hw3⟩ := ih N (i + 1) u (by omega) (by omega) (fun k hk hik => by rw [hu2 k hk (by omega)]; exact hv k hk (by omega))
    refine ⟨w, ?_, fun k hk hki => ?_, fun k hk hik => ?_⟩
    · rw [bifT (decide_eq_true (by omega)), ckb (by omega), hu]
      unfold law03_beside_K3
      rw [ckb (by omega), natS]
      exact hw
    · rw [hw2 k hk (by omega), hu2 k hk (by omega)]
    · by_cases e : k = i
      · subst e
        rw [hw2 k hk (by omega), hu3, hv k hk (by omega)]
        simp only [Bool.false_eq_true, false_or]
        constructor
        · rintro ⟨h1, q, h2, h3⟩
          exact ⟨h1, q, by split at h2 <;> omega, h3⟩
        · rintro ⟨h1, q, h2, h3⟩
          exact ⟨h1, q, by split <;> omega, h3⟩
      · exact hw3 k hk (by omega)
theorem beside_eq (hF : FF ≤ F) (a b : V80) (d : Int) (hd : 0 ≤ d ∧ d ≤ 1000000000) : ∃ w, law03_beside F a b d = some w ∧ ∀ k < 80, (vb w k = true ↔ vb a k = true ∧ ∃ q : Nat, (k : Int) - d ≤ q ∧ (q : Int) ≤ k + d ∧ q < 80 ∧ vb b q = true) := by
  have hF' := hF
  unfold FF at hF'
  obtain ⟨w, h1, _, h3⟩ := beside_out hF a b d hd 80 F 0 (default : V80) (by omega) (by omega) (fun k _ _ => vb_default)
  exact ⟨w, h1, fun k hk => h3 k hk (by omega)⟩
/-- Sets of integers that are near. -/
theorem Dt_near (hF : FF ≤ F) {a b : List api_Span} {d : Int} (hv : valid b) (hd : 0 ≤ d ∧ d ≤ 1000000000) (hb : ∀ s ∈ b, -20 ≤ s.Lo ∧ s.Hi ≤ 59) : law03_beside F (Dt a) (Dt b) d = some (Dt (nr a b d)) := by
  obtain ⟨w, hw, hw2⟩ := beside_eq hF (Dt a) (Dt b) d hd
  rw [hw]
  congr 1
  apply vb_ext
  intro k hk
  rw [vb_Dt hk, Bool.eq_iff_iff, hw2 k hk, vb_Dt hk, dt_mem, dt_mem, nr_mem hv hd.1]
  constructor
  · rintro ⟨h1, q, h2, h3, h4, h5⟩
    rw [vb_Dt h4, dt_mem] at h5
    exact ⟨h1, _, h5, by omega, by omega⟩
  · rintro ⟨h1, y, ⟨s, hs, hy1, hy2⟩, h2, h3⟩
    refine ⟨h1, ?_⟩
    have hsb := hb s hs
    -- the integer of the same span that is nearest
    obtain ⟨q, hq1, hq2, hq3, hq4⟩ : ∃ q : Int, s.Lo ≤ q ∧ q ≤ s.Hi ∧ 2 * q - 2 * d ≤ 2 * ((k : Int) - 20) ∧ 2 * ((k : Int) - 20) ≤ 2 * q + 2 * d := by
      by_cases hp : y ≤ 2 * ((k : Int) - 20)
      · exact ⟨(y + 1) / 2, by omega, by omega, by omega, by omega⟩
      · exact ⟨y / 2, by omega, by omega, by omega, by omega⟩
    refine ⟨(q + 20).toNat, by omega, by omega, by omega, ?_⟩
    rw [vb_Dt (by omega), dt_mem]
    exact ⟨s, hs, by omega, by omega⟩
/-! ### formed -/
theorem formed_loop (hF : FF ≤ F) (l : List api_Span) (hl : l.length ≤ 100000) (hg : Canon l) (hs : ∀ s ∈ l, -20 ≤ s.Lo ∧ s.Hi ≤ 59) : ∀ (n N i : Nat), i + n = l.length → n < N →
    law03_formed_L2 l (Dt l) N (i : Int) = some true := by
  have hF' := hF
  unfold FF at hF'
  intro n
  induction n with
  | zero =>
    intro N i hi hN
    obtain ⟨N, rfl⟩ : ∃ N', N = N' + 1 := ⟨N - 1, by omega⟩
    show law03_formed_B2 l (Dt l) (law03_formed_L2 l (Dt l) N) (i : Int) = _
    unfold law03_formed_B2
    rw [bifF (by simp; omega)]; rfl
  | succ n ih =>
    intro N i hi hN
    obtain ⟨N, rfl⟩ : ∃ N', N = N' + 1 := ⟨N - 1, by omega⟩
    show law03_formed_B2 l (Dt l) (law03_formed_L2 l (Dt l) N) (i : Int) = _
    unfold law03_formed_B2
    have hin : l[i]? = some (gx l i) := by
      unfold gx
      rw [List.getD_eq_getElem?_getD, List.getElem?_eq_getElem (by omega : i < l.length)]; rfl
    have hmem := List.mem_of_getElem? hin
    have hsi := hs _ hmem
    have hvi := hg.2 _ hmem
    have e1 : decide ((gx l i).Lo > (gx l i).Hi) = false := decide_eq_false (by omega)
    have e2 : decide ((gx l i).Lo < -20) = false := decide_eq_false (by omega)
    have e3 : decide ((gx l i).Hi ≥ 60) = false := decide_eq_false (by omega)
    have hd : ∀ z : Int, (gx l i).Lo ≤ z → z ≤ (gx l i).Hi → getV (Dt l) (z - (-20)) = some true := by
      intro z h1 h2
      rw [getV1 (by omega), vb_Dt (by omega)]
      congr 1
      rw [dt_mem]
      exact ⟨_, hmem, by omega, by omega⟩
    have hprev : ∃ u : api_Span, gd (decide ((i : Int) > 0) == true && (decide ((gx l i).Lo > (gx l i).Hi) == false && true)) (ck ((i : Int) - 1)) 0 = some (if i = 0 then 0 else (i : Int) - 1) ∧
        gd (decide ((i : Int) > 0) == true && (decide ((gx l i).Lo > (gx l i).Hi) == false && true)) (getI l (if i = 0 then 0 else (i : Int) - 1)) default = some u ∧ (bif decide ((i : Int) > 0) then decide ((gx l i).Lo ≤ u.Hi) else false) = false := by
      rw [e1]
      by_cases h0 : i = 0
      · subst h0
        exact ⟨default, gdF rfl, gdF rfl, rfl⟩
      · have hc : decide ((i : Int) > 0) = true := decide_eq_true (by omega)
        rw [hc, if_neg h0]
        have hlt : (gx l (i - 1)).Hi < (gx l i).Lo := by
          have := List.pairwise_iff_getElem.1 hg.1 (i - 1) i (by omega) (by omega) (by omega)
          unfold gx
          rw [List.getD_eq_getElem?_getD, List.getD_eq_getElem?_getD, List.getElem?_eq_getElem (by omega : i - 1 < l.length), List.getElem?_eq_getElem (by omega : i < l.length)]
          exact this
        refine ⟨gx l (i - 1), ?_, ?_, ?_⟩
        · exact (gdT rfl).trans (ck1 (by omega))
        · refine (gdT rfl).trans ?_
          have := getS (l := l) (i := i - 1) (by omega) (fun u => some u)
          rw [show ((i : Int) - 1) = ((i - 1 : Nat) : Int) by omega]
          simpa using this
        · rw [cond_true]; exact decide_eq_false (by omega)
    obtain ⟨u, p1, p2, p3⟩ := hprev
    rw [bifT (by simp; omega), getS (by omega), p1, sb, p2, sb, p3, e1, e2, e3]
    simp only [cond_false]
    rw [gdT (g := false == false && true) rfl, ckb (by omega), gdT (g := false == false && true) rfl, hd _ (by omega) (by omega), sb]
    simp only [Bool.not_true, cond_false]
    rw [gdT (g := false == false && true) rfl, ckb (by omega), gdT (g := false == false && true) rfl, hd _ (by omega) (by omega), sb]
    refine Eq.trans (bifF rfl) ?_
    rw [ckb (by omega), natS]
    exact ih N (i + 1) (by omega) (by omega)
theorem formed_eq (hF : FF ≤ F) (l : List api_Span) (hl : l.length ≤ 100000) (hg : Canon l) (hs : ∀ s ∈ l, -20 ≤ s.Lo ∧ s.Hi ≤ 59) : law03_formed F l (Dt l) = some true := by
  have hF' := hF
  unfold FF at hF'
  exact formed_loop hF l hl hg hs l.length F 0 (by omega) (by omega)
end
end Go.Proofs.Ytbhjgebjojdohaa
/- Chapter 3, plain: the law FoldCourses. -/
namespace Go.Proofs.Ytbhjgebjojdohaa
open Go Go.RowKit Go.Eng
set_option maxRecDepth 10000
set_option linter.unusedVariables false
set_option linter.unusedSimpArgs false
theorem rem1 {x y : Int} (hx : 0 ≤ x) (hy : 0 < y) : remC x y = some (x % y) := by
  rw [remC, if_neg (by omega), Int.tmod_eq_emod_of_nonneg hx]
/-- What is made of a row of bytes, so far. -/
def okR (pos : Int) (l : List api_Span) : Prop := Canon l ∧ ∀ s ∈ l, -20 ≤ s.Lo ∧ s.Hi ≤ pos - 20
theorem okR_nil : okR 0 [] := ⟨⟨.nil, fun s hs => by cases hs⟩, fun s hs => by cases hs⟩
theorem okR_app {pos q : Int} {l : List api_Span} (h : okR pos l) (hq : pos < q) (h0 : 0 ≤ pos) : okR q (l ++ [⟨q - 20, q - 20⟩]) := by
  refine ⟨⟨?_, fun s hs => ?_⟩, fun s hs => ?_⟩
  · rw [List.pairwise_append]
    refine ⟨h.1.1, List.pairwise_singleton _ _, fun a ha b hb => ?_⟩
    rw [List.mem_singleton] at hb
    subst hb
    have := (h.2 a ha).2
    show a.Hi < q - 20
    omega
  · rw [List.mem_append, List.mem_singleton] at hs
    rcases hs with hs | rfl
    · exact h.1.2 s hs
    · exact Int.le_refl _
  · rw [List.mem_append, List.mem_singleton] at hs
    rcases hs with hs | rfl
    · have := h.2 s hs; omega
    · exact ⟨by show -20 ≤ q - 20; omega, Int.le_refl _⟩
theorem okR_last {pos q : Int} {l : List api_Span} {u : api_Span} (h : okR pos (l ++ [u])) (hq : pos ≤ q) : okR q (l ++ [⟨u.Lo, q - 20⟩]) := by
  have hu := h.2 u (by simp)
  have hv := h.1.2 u (by simp)
  have hp := List.pairwise_append.1 h.1.1
  refine ⟨⟨?_, fun s hs => ?_⟩, fun s hs => ?_⟩
  · rw [List.pairwise_append]
    refine ⟨hp.1, List.pairwise_singleton _ _, fun a ha b hb => ?_⟩
    rw [List.mem_singleton] at hb
    subst hb
    exact hp.2.2 a ha u (by simp)
  · rw [List.mem_append, List.mem_singleton] at hs
    rcases hs with hs | rfl
    · exact h.1.2 s (by simp [hs])
    · show u.Lo ≤ q - 20; omega
  · rw [List.mem_append, List.mem_singleton] at hs
    rcases hs with hs | rfl
    · have := h.2 s (by simp [hs]); omega
    · exact ⟨hu.1, Int.le_refl _⟩
theorem okR_len {pos : Int} {l : List api_Span} (h : okR pos l) (hp : 0 ≤ pos ∧ pos ≤ 79) : l.length ≤ 80 := by
  have := canon_len (lo := -20) (hi := pos - 20) h.1 h.2 (by omega)
  omega
theorem span_mk (x y : Int) : law03_span x y = ⟨x, y⟩ := rfl
theorem made_in (u : List Int) (hu : ∀ b ∈ u, 0 ≤ b ∧ b ≤ 255) (X : Int) (acc : Sets) (k2 : Int → Sets → Option Sets) : ∀ (n N i : Nat) (l : List api_Span) (pos : Int), i + n = 7 → n < N → i ≤ 6 → 0 ≤ pos → pos ≤ 12 * i → okR pos l →
    ∃ r, law03_made_L5 X acc k2 u N (i : Int) l pos = law03_made_K4 X acc k2 r ∧ okR 79 r := by
  intro n
  induction n with
  | zero => intro N i l pos h1 h2 h3; omega
  | succ n ih =>
    intro N i l pos h1 h2 h3 h4 h5 h6
    obtain ⟨N, rfl⟩ : ∃ N', N = N' + 1 := ⟨N - 1, by omega⟩
    have hend : okR 79 l := ⟨h6.1, fun s hs => by have := h6.2 s hs; omega⟩
    have step : law03_made_L5 X acc k2 u (N + 1) (i : Int) l pos = law03_made_B5 X acc k2 u (law03_made_L5 X acc k2 u N) (i : Int) l pos := rfl
    rw [step]
    unfold law03_made_B5
    by_cases hi : i < u.length
    · rw [bifT (by simp; omega), getb 0 (by omega), Int.toNat_natCast]
      have hb : 0 ≤ u.getD i 0 ∧ u.getD i 0 ≤ 255 := by
        rw [List.getD_eq_getElem?_getD, List.getElem?_eq_getElem hi]
        exact hu _ (List.getElem_mem hi)
      generalize u.getD i 0 = b at hb ⊢
      by_cases h66 : i = 6
      · exact ⟨l, bifT (by simp; omega), hend⟩
      · refine Exists.elim (?_ : ∃ r, (bif ((i : Int) % 2 == 0) then ((ck b).bind fun x3588 => (remC x3588 12).bind fun x3589 => (ck (1 + x3589)).bind fun x3590 => (ck (pos + x3590)).bind fun x3591 => (ck (x3591 - 20)).bind fun x3592 => (ck (x3591 - 20)).bind fun x3593 => (apd 16 l ([(law03_span x3592 x3593)])).bind fun l3595 => law03_made_K6 (i : Int) (law03_made_L5 X acc k2 u N) l3595 x3591)
            else (bif (decide (((l.length : Nat) : Int) > 0)) then ((ck b).bind fun x3598 => (remC x3598 8).bind fun x3599 => (ck (pos + x3599)).bind fun x3600 => (ck (((l.length : Nat) : Int) - 1)).bind fun x3601 => (ck (x3600 - 20)).bind fun x3602 => (getI l x3601).bind fun u3603 => (setI l x3601 (api_Span.mk u3603.Lo x3602)).bind fun l3604 => law03_made_K6 (i : Int) (law03_made_L5 X acc k2 u N) l3604 x3600) else (law03_made_K6 (i : Int) (law03_made_L5 X acc k2 u N) l pos))) = law03_made_K4 X acc k2 r ∧ okR 79 r) ?_
        · have hlen := okR_len h6 (by omega)
          have hK : ∀ (l' : List api_Span) (q : Int), 0 ≤ q → q ≤ 12 * (i + 1) → okR q l' → ∃ r, law03_made_K6 (i : Int) (law03_made_L5 X acc k2 u N) l' q = law03_made_K4 X acc k2 r ∧ okR 79 r := by
            intro l' q hq1 hq2 hq3
            unfold law03_made_K6
            rw [ckb (by omega), natS]
            exact ih N (i + 1) l' q (by omega) (by omega) (by omega) hq1 (by omega) hq3
          cases h2' : ((i : Int) % 2 == 0) with
          | true =>
            rw [cond_true, ckb (by omega), rem1 (by omega) (by omega), sb, ckb (by omega), ckb (by omega), ckb (by omega), ckb (by omega), apdb (by simp; omega)]
            rw [span_mk]
            generalize hq : pos + (1 + b % 12) = q
            exact hK _ q (by omega) (by omega) (okR_app h6 (by omega) h4)
          | false =>
            rw [cond_false]
            rcases List.eq_nil_or_concat l with rfl | ⟨a, z, rfl⟩
            · rw [bifF (by simp)]
              exact hK [] pos h4 (by omega) h6
            · rw [List.concat_eq_append] at h6 ⊢
              have hal : (((a ++ [z]).length : Nat) : Int) - 1 = ((a.length : Nat) : Int) := by simp
              have hg : getI (a ++ [z]) ((a.length : Nat) : Int) = some z := by
                unfold getI
                rw [if_pos (by omega), Int.toNat_natCast, List.getElem?_concat_length]
              have hs : ∀ y, setI (a ++ [z]) ((a.length : Nat) : Int) y = some (a ++ [y]) := by
                intro y
                unfold setI
                rw [if_pos (by simp; omega), Int.toNat_natCast]
                congr 1
                rw [List.set_append_right _ _ (Nat.le_refl _)]; simp
              have hl2 : (a ++ [z]).length ≤ 80 := by rw [List.concat_eq_append] at hlen; exact hlen
              rw [bifT (by simp), ckb (by omega), rem1 (by omega) (by omega), sb, ckb (by omega), ckb (by omega), hal, ckb (by omega), hg, sb, hs, sb]
              exact hK _ _ (by omega) (by omega) (okR_last h6 (by omega))
        · rintro r ⟨hr, hr2⟩
          refine ⟨r, ?_, hr2⟩
          rw [bifF (by simp; omega), rem1 (by omega) (by omega), sb]
          exact hr
    · exact ⟨l, bifF (by simp; omega), hend⟩
section
variable {F : Nat}
theorem made_out (hF : FF ≤ F) (p0 : List (List Int)) (h0 : ∀ r ∈ p0, ∀ b ∈ r, 0 ≤ b ∧ b ≤ 255) (hl : p0.length ≤ 7) : ∀ (n N i : Nat) (acc : Sets), i + n = p0.length → n < N → acc.length = i → (∀ s ∈ acc, okR 79 s) →
    ∃ S, law03_made_L2 F p0 N (i : Int) acc = some S ∧ S.length = p0.length ∧ ∀ s ∈ S, okR 79 s := by
  have hF' := hF
  unfold FF at hF'
  intro n
  induction n with
  | zero =>
    intro N i acc hi hN ha hok
    obtain ⟨N, rfl⟩ : ∃ N', N = N' + 1 := ⟨N - 1, by omega⟩
    refine ⟨acc, ?_, by omega, hok⟩
    show law03_made_B2 F p0 (law03_made_L2 F p0 N) (i : Int) acc = _
    unfold law03_made_B2
    rw [bifF (by simp; omega)]; rfl
  | succ n ih =>
    intro N i acc hi hN ha hok
    obtain ⟨N, rfl⟩ : ∃ N', N = N' + 1 := ⟨N - 1, by omega⟩
    have step : law03_made_L2 F p0 (N + 1) (i : Int) acc = law03_made_B2 F p0 (law03_made_L2 F p0 N) (i : Int) acc := rfl
    rw [step]
    unfold law03_made_B2
    rw [bifT (by simp; omega), getb [] (by omega), Int.toNat_natCast]
    have hu : ∀ b ∈ p0.getD i [], 0 ≤ b ∧ b ≤ 255 := by
      rw [List.getD_eq_getElem?_getD, List.getElem?_eq_getElem (by omega : i < p0.length)]
      exact h0 _ (List.getElem_mem _)
    obtain ⟨r, hr, hr2⟩ := made_in (p0.getD i []) hu (i : Int) acc (law03_made_L2 F p0 N) 7 F 0 [] 0 (by omega) (by omega) (by omega) (by omega) (by omega) okR_nil
    refine Exists.elim (ih N (i + 1) (acc ++ [r]) (by omega) (by omega) (by simp [ha]) (fun s hs => ?_)) fun S hS => ⟨S, ?_, hS.2⟩
    · rw [List.mem_append, List.mem_singleton] at hs
      rcases hs with hs | rfl
      · exact hok s hs
      · exact hr2
    · refine Eq.trans hr ?_
      unfold law03_made_K4
      rw [apdb (by simp; omega)]
      unfold law03_made_K3
      rw [ckb (by omega), natS]
      exact hS.1
theorem made_eq (hF : FF ≤ F) (p0 : List (List Int)) (h0 : ∀ r ∈ p0, ∀ b ∈ r, 0 ≤ b ∧ b ≤ 255) (hl : p0.length ≤ 7) : ∃ S, law03_made F p0 = some S ∧ S.length = p0.length ∧ ∀ s ∈ S, okR 79 s := by
  have hF' := hF
  unfold FF at hF'
  exact made_out hF p0 h0 hl p0.length F 0 [] (by omega) (by omega) rfl (fun s hs => by cases hs)
theorem okR_good {l : List api_Span} (h : okR 79 l) : Good l := ⟨h.1, fun s hs => by have := h.2 s hs; omega⟩
/-! ### The program takes what is good -/
theorem chk_good_loop (l : List api_Span) (hl : l.length ≤ 100000) (hg : Good l) : ∀ (n N i : Nat), i + n = l.length → n < N → fold_checked_L2 l true N (i : Int) = some 0 := by
  intro n
  induction n with
  | zero =>
    intro N i hi hN
    obtain ⟨N, rfl⟩ : ∃ N', N = N' + 1 := ⟨N - 1, by omega⟩
    show fold_checked_B2 l true (fold_checked_L2 l true N) (i : Int) = _
    unfold fold_checked_B2
    rw [bifF (by simp; omega)]; rfl
  | succ n ih =>
    intro N i hi hN
    obtain ⟨N, rfl⟩ : ∃ N', N = N' + 1 := ⟨N - 1, by omega⟩
    have s1 : fold_checked_L2 l true (N + 1) (i : Int) = fold_checked_B2 l true (fold_checked_L2 l true N) (i : Int) := rfl
    rw [s1]
    have hc : decide ((i : Int) < ((l.length : Nat) : Int)) = true := by simp; omega
    have hin : l[i]? = some (gx l i) := by
      unfold gx
      rw [List.getD_eq_getElem?_getD, List.getElem?_eq_getElem (by omega : i < l.length)]; rfl
    have hmem := List.mem_of_getElem? hin
    have hok : okSp (gx l i) = true := by
      unfold okSp
      have := hg.2 _ hmem
      have := hg.1.2 _ hmem
      simp only [decide_eq_true_eq]
      omega
    by_cases h0 : i = 0
    · subst h0
      unfold fold_checked_B2
      refine Eq.trans (bifT hc) ?_
      rw [getS (by omega), okSp_not, hok]
      refine Eq.trans (bifF rfl) ?_
      rw [gdF (g := (bif true then (decide (((0 : Nat) : Int) > 0)) else false) == true && true) rfl, sb, gdF (g := (bif true then (decide (((0 : Nat) : Int) > 0)) else false) == true && true) rfl, sb]
      refine Eq.trans (bifF rfl) ?_
      rw [ckb (by omega)]
      exact ih N 1 (by omega) (by omega)
    · have e0 : decide ((i : Int) > 0) = true := by simp; omega
      have e1 : ((i : Int) - 1) = ((i - 1 : Nat) : Int) := by omega
      have eg : ((bif true then (decide ((i : Int) > 0)) else false) == true && true) = true := by rw [e0]; rfl
      have P1 : fold_checked_B2 l true (fold_checked_L2 l true N) (i : Int) = bif decide ((gx l i).Lo ≤ (gx l (i - 1)).Hi) then some 12 else fold_checked_L2 l true N ((i + 1 : Nat) : Int) := by
        unfold fold_checked_B2
        refine Eq.trans (bifT hc) ?_
        rw [getS (by omega), okSp_not, hok]
        refine Eq.trans (bifF rfl) ?_
        rw [gdT eg, ckb (by omega), e1, gdT eg, getS (by omega), e0, ckb (by omega), natS]
        rfl
      have hlt : (gx l (i - 1)).Hi < (gx l i).Lo := by
        have := List.pairwise_iff_getElem.1 hg.1.1 (i - 1) i (by omega) (by omega) (by omega)
        unfold gx
        rw [List.getD_eq_getElem?_getD, List.getD_eq_getElem?_getD, List.getElem?_eq_getElem (by omega : i - 1 < l.length), List.getElem?_eq_getElem (by omega : i < l.length)]
        exact this
      rw [P1, bifF (decide_eq_false (by omega))]
      exact ih N (i + 1) (by omega) (by omega)
theorem chk_good (hF : FF ≤ F) {l : List api_Span} (hl : l.length ≤ 256) (hg : Good l) : fold_checked F l true = some 0 := by
  unfold FF at hF
  unfold fold_checked
  rw [bifF (decide_eq_false (by omega))]
  exact chk_good_loop l (by omega) hg l.length F 0 (by omega) (by omega)
theorem row_good (hF : FF ≤ F) {S : Sets} (hl : S.length ≤ 200) (hS : ∀ s ∈ S, s.length ≤ 256 ∧ Good s) : fold_row F S = some (S, 0) := by
  have hF' := hF
  unfold FF at hF'
  unfold fold_row
  rw [bifF (decide_eq_false (by omega))]
  have : ∀ (n N i : Nat), i + n = S.length → n < N → fold_row_L2 F S N (i : Int) (S.take i) = some (S, 0) := by
    intro n
    induction n with
    | zero =>
      intro N i hi hN
      obtain ⟨N, rfl⟩ : ∃ N', N = N' + 1 := ⟨N - 1, by omega⟩
      show fold_row_B2 F S (fold_row_L2 F S N) (i : Int) (S.take i) = _
      unfold fold_row_B2
      rw [bifF (by simp; omega), List.take_of_length_le (by omega)]; rfl
    | succ n ih =>
      intro N i hi hN
      obtain ⟨N, rfl⟩ : ∃ N', N = N' + 1 := ⟨N - 1, by omega⟩
      have s1 : fold_row_L2 F S (N + 1) (i : Int) (S.take i) = fold_row_B2 F S (fold_row_L2 F S N) (i : Int) (S.take i) := rfl
      rw [s1]
      unfold fold_row_B2
      have hgt : S[i]? = some (gt S i) := by
        unfold gt
        rw [List.getD_eq_getElem?_getD, List.getElem?_eq_getElem (by omega : i < S.length)]; rfl
      obtain ⟨hlen, hg⟩ := hS _ (List.mem_of_getElem? hgt)
      have hu : fold_speeds_united F (gt S i) = some (gt S i) := by
        rw [united_un hF hg.1.2 (fun s hs => by have := hg.2 s hs; have := hg.1.2 s hs; unfold spB; omega) (by omega), un_id hg.1]
      have ht : S.take i ++ [gt S i] = S.take (i + 1) := by rw [List.take_add_one, hgt]; rfl
      rw [bifT (by simp; omega), getG (by omega), chk_good hF hlen hg, sb]
      refine Eq.trans (bifF rfl) ?_
      rw [hu, sb, apdb (by simp; omega), ht, ckb (by omega), natS]
      exact ih N (i + 1) (by omega) (by omega)
  exact this S.length F 0 (by omega) (by omega)
theorem ray_full (hF : FF ≤ F) {S : Sets} (hl : S.length ≤ 200) (hS : ∀ s ∈ S, s.length ≤ 256 ∧ Good s) {jp br : Int} (hj : 0 ≤ jp ∧ jp ≤ 400000) (hb : 1 ≤ br ∧ br ≤ 16) :
    ∃ f b p, fold_Ray F S jp br = some (p, 0) ∧ p.length = S.length ∧ AllGood f ∧ AllGood b ∧ AllGood p ∧ (∀ j < S.length, pF S br jp f j) ∧ (∀ j < S.length, pB S br jp b j) ∧ ∀ x < S.length, gt p x = mt (gt f x) (gt b x) := by
  have hG : AllGood S := fun s hs => (hS s hs).2
  obtain ⟨f, b, o, a1, a2, a3, a4, a5, a6, a7⟩ := ref_courses hF hG (by omega) hj hb.2
  obtain ⟨f', p, c1, c2, c3, c4, c5, c6⟩ := prog_courses hF hG (by omega) hj hb.2 0
  have hff : ∀ j < S.length, gt f' j = gt f j := fun j hj => F_unique c5 a5 (j + 1) j (by omega) hj
  have hpo : ∀ x < S.length, gt p x = mt (gt f x) (gt b x) := by
    intro x hx
    refine canon_eq (c4.gt x).1 (mt_canon _ _) fun z => ?_
    rw [both_ways hG hj hb.2 c3 a4 c4 c5 a6 c6 S.length x (by omega) (by omega) z, mt_mem, hff x (by omega)]
  refine ⟨f, b, p, ?_, c2, a3, a4, c4, a5, a6, hpo⟩
  unfold fold_Ray
  have hlim : fold_limited jp br = 0 := by
    unfold fold_limited
    simp [cond_eq_ite]
    omega
  rw [row_good hF hl hS, sb]
  refine Eq.trans (bifT rfl) ?_
  rw [hlim]
  exact c1
end
end Go.Proofs.Ytbhjgebjojdohaa
/- Chapter 3, plain: the law FoldCourses, joined. -/
namespace Go.Proofs.Ytbhjgebjojdohaa
open Go Go.RowKit Go.Eng
set_option maxRecDepth 10000
set_option linter.unusedVariables false
set_option linter.unusedSimpArgs false
def vg (l : List V80) (i : Nat) : V80 := l.getD i default
theorem getW {β : Type} {l : List V80} {i : Nat} (hi : i < l.length) (k : V80 → Option β) : (getI l (i : Int)).bind k = k (vg l i) := by
  rw [getb default (by omega), Int.toNat_natCast]; rfl
theorem setW {β : Type} {l : List V80} {i : Nat} {x : V80} (hi : i < l.length) (k : List V80 → Option β) : (setI l (i : Int) x).bind k = k (l.set i x) := by
  unfold setI
  rw [if_pos (by omega), Int.toNat_natCast]; rfl
theorem vg_set {l : List V80} {i j : Nat} {x : V80} (hi : i < l.length) : vg (l.set i x) j = if i = j then x else vg l j := by
  unfold vg
  rw [List.getD_eq_getElem?_getD, List.getD_eq_getElem?_getD, List.getElem?_set]
  by_cases e : i = j
  · rw [if_pos e, if_pos e, if_pos hi]; rfl
  · rw [if_neg e, if_neg e]
def inR (l : List api_Span) : Prop := ∀ s ∈ l, -20 ≤ s.Lo ∧ s.Hi ≤ 59
theorem inR_sub {a b : List api_Span} (hv : valid a) (hb : inR b) (h : ∀ z, mem z a → mem z b) : inR a := by
  intro s hs
  have hvs := hv s hs
  obtain ⟨t, ht, h1, h2⟩ := h (2 * s.Lo) ⟨s, hs, by omega, by omega⟩
  obtain ⟨u, hu, h3, h4⟩ := h (2 * s.Hi) ⟨s, hs, by omega, by omega⟩
  have := hb t ht
  have := hb u hu
  omega
theorem inR_wide {l : List api_Span} (h : inR l) (hv : valid l) : ∀ s ∈ l, -1000000 ≤ s.Lo ∧ s.Hi ≤ 1000000 := fun s hs => by have := h s hs; omega
section
variable {F : Nat} {S f b p : Sets} {br jp : Int}
theorem sub_F (hj : 0 ≤ jp ∧ jp ≤ 400000) (hb : br ≤ 16) (hfG : AllGood f) (hf : ∀ j < S.length, pF S br jp f j) {j : Nat} (hjl : j < S.length) {z : Int} (hz : mem z (gt f j)) : mem z (gt S j) := by
  by_cases h : ∃ i, lk S br i j
  · obtain ⟨i, hi⟩ := h
    rw [(hf j hjl).1 i hi] at hz
    exact ((nr_mem (hfG.gt i).1.2 (dpos hj hb hi).1 z).1 hz).1
  · rw [(hf j hjl).2 (fun i hi => h ⟨i, hi⟩)] at hz; exact hz
theorem sub_B (hj : 0 ≤ jp ∧ jp ≤ 400000) (hb : br ≤ 16) (hbG : AllGood b) (hB : ∀ j < S.length, pB S br jp b j) {j : Nat} (hjl : j < S.length) {z : Int} (hz : mem z (gt b j)) : mem z (gt S j) := by
  by_cases h : ∃ i, lk S br j i
  · obtain ⟨i, hi⟩ := h
    rw [(hB j hjl).1 i hi] at hz
    exact ((nr_mem (hbG.gt i).1.2 (dpos hj hb hi).1 z).1 hz).1
  · rw [(hB j hjl).2 (fun i hi => h ⟨i, hi⟩)] at hz; exact hz
theorem ne_eq (i : Nat) : decide (((((gt S i).length : Nat) : Int)) > 0) = ne S i := by
  unfold ne; rw [decide_eq_decide]; omega
/-! ### Forward -/
def lastOf (S : Sets) (i : Nat) (x : Int) : Prop := (x = -1 ∧ ∀ q < i, ne S q = false) ∨ ∃ m : Nat, x = m ∧ m < i ∧ ne S m = true ∧ ∀ q, m < q → q < i → ne S q = false
theorem vfwd_step (hF : FF ≤ F) (hl : S.length ≤ 100) (hR : ∀ i < S.length, inR (gt S i)) (hG : AllGood S) (hj : 0 ≤ jp ∧ jp ≤ 400000) (hb : br ≤ 16) (hfG : AllGood f) (hf : ∀ j < S.length, pF S br jp f j) (y : Sets × Int) (l33 : List V80) (i : Nat) (hi : i < S.length)
    (l : List V80) (hll : l.length = S.length) (hv : ∀ j < i, vg l j = Dt (gt f j)) (x : Int) (hx : lastOf S i x) (k : List V80 → Int → Int → Option Bool) :
    ∃ l' x', law03_FoldCourses_B11 F S jp br y l33 k l x (i : Int) = k l' x' ((i + 1 : Nat) : Int) ∧ l'.length = S.length ∧ (∀ j < i + 1, vg l' j = Dt (gt f j)) ∧ lastOf S (i + 1) x' := by
  have hF' := hF
  unfold FF at hF'
  have hgi := hG.gt i
  have hlen := hgi.len
  have hRi := hR i hi
  have hd : law03_dots F (gt S i) = some (Dt (gt S i)) := by
    refine dots_eq hF _ ?_ (inR_wide hRi hgi.1.2)
    have := canon_len (lo := -20) (hi := 59) hgi.1 hRi (by omega)
    omega
  unfold law03_FoldCourses_B11
  rw [bifT (by simp; omega), getG (by omega), hd, sb, getW (by omega), setW (by omega), getG (by omega), ne_eq]
  have hl1 : (l.set i (Dt (gt S i))).length = S.length := by rw [List.length_set]; exact hll
  have hv1 : ∀ j < i, vg (l.set i (Dt (gt S i))) j = Dt (gt f j) := fun j hji => by rw [vg_set (by omega), if_neg (by omega)]; exact hv j hji
  have hv2 : vg (l.set i (Dt (gt S i))) i = Dt (gt S i) := by rw [vg_set (by omega), if_pos rfl]
  have hK : ∀ (l' : List V80) (x' : Int), law03_FoldCourses_K12 (i : Int) k l' x' = k l' x' ((i + 1 : Nat) : Int) := by
    intro l' x'
    unfold law03_FoldCourses_K12
    rw [ckb (by omega), natS]
  cases hn : ne S i with
  | false =>
    refine ⟨_, x, Eq.trans (bifF rfl) (hK _ _), hl1, fun j hji => ?_, ?_⟩
    · by_cases e : j = i
      · subst e
        rw [hv2, (hf j hi).2 (fun m hm => by have := hm.2.2.2.1; rw [hn] at this; cases this)]
      · exact hv1 j (by omega)
    · rcases hx with ⟨h1, h2⟩ | ⟨m, h1, h2, h3, h4⟩
      · refine .inl ⟨h1, fun q hq => ?_⟩
        by_cases e : q = i
        · rw [e]; exact hn
        · exact h2 q (by omega)
      · refine .inr ⟨m, h1, by omega, h3, fun q hq1 hq2 => ?_⟩
        by_cases e : q = i
        · rw [e]; exact hn
        · exact h4 q hq1 (by omega)
  | true =>
    have hlast : lastOf S (i + 1) (i : Int) := .inr ⟨i, rfl, by omega, hn, fun q h1 h2 => by omega⟩
    rw [cond_true]
    have hK2 : ∀ (l' : List V80), law03_FoldCourses_K13 (i : Int) k l' = k l' (i : Int) ((i + 1 : Nat) : Int) := fun l' => by unfold law03_FoldCourses_K13; exact hK _ _
    have hnone : (∀ m, ¬ lk S br m i) → ∀ j < i + 1, vg (l.set i (Dt (gt S i))) j = Dt (gt f j) := by
      intro h j hji
      by_cases e : j = i
      · subst e; rw [hv2, (hf j hi).2 h]
      · exact hv1 j (by omega)
    rcases hx with ⟨rfl, h2⟩ | ⟨m, rfl, h2, h3, h4⟩
    · refine ⟨_, (i : Int), ?_, hl1, hnone (fun m hm => by have := h2 m hm.1; rw [hm.2.2.1] at this; cases this), hlast⟩
      rw [gdF (g := decide ((-1 : Int) ≥ 0) == true && true) rfl, sb]
      exact Eq.trans (bifF rfl) (hK2 _)
    · have e0 : decide ((m : Int) ≥ 0) = true := decide_eq_true (by omega)
      rw [e0, gdT (g := true == true && true) rfl, ckb (by omega), cond_true]
      by_cases hbr : (i : Int) - m ≤ br
      · have hlk : lk S br m i := ⟨h2, hi, h3, hn, h4, hbr⟩
        have hdp := dpos hj hb hlk
        have hne := Dt_near hF (a := gt S i) (b := gt f m) (d := jp * ((i : Int) - m)) (hfG.gt m).1.2 hdp (inR_sub (hfG.gt m).1.2 (hR m (by omega)) (fun z hz => sub_F hj hb hfG hf (by omega) hz))
        refine ⟨(l.set i (Dt (gt S i))).set i (Dt (gt f i)), (i : Int), ?_, by rw [List.length_set]; exact hl1, fun j hji => ?_, hlast⟩
        · rw [bifT (decide_eq_true hbr), getW (by omega), hv2, getW (by omega), hv1 m h2, ckb (by omega), ckb (by omega), hne, sb, getW (by omega), setW (by omega), hK2, (hf i hi).1 m hlk]
        · rw [vg_set (by omega)]
          by_cases e : i = j
          · rw [if_pos e, e]
          · rw [if_neg e]; exact hv1 j (by omega)
      · refine ⟨_, (i : Int), ?_, hl1, hnone (fun m' hm => ?_), hlast⟩
        · rw [bifF (decide_eq_false hbr)]; exact hK2 _
        · have e : m' = m := by
            by_cases h5 : m' < m
            · have := hm.2.2.2.2.1 m h5 h2
              rw [h3] at this; cases this
            · by_cases h6 : m < m'
              · have := h4 m' h6 hm.1
                rw [hm.2.2.1] at this; cases this
              · omega
          subst e
          exact hbr hm.2.2.2.2.2
theorem vfwd_loop (hF : FF ≤ F) (hl : S.length ≤ 100) (hR : ∀ i < S.length, inR (gt S i)) (hG : AllGood S) (hj : 0 ≤ jp ∧ jp ≤ 400000) (hb : br ≤ 16) (hfG : AllGood f) (hf : ∀ j < S.length, pF S br jp f j) (y : Sets × Int) (l33 : List V80) : ∀ (n N i : Nat) (l : List V80) (x : Int), i + n = S.length → n < N → l.length = S.length → (∀ j < i, vg l j = Dt (gt f j)) → lastOf S i x →
    ∃ l', law03_FoldCourses_L11 F S jp br y l33 N l x (i : Int) = law03_FoldCourses_K1 F S jp br y l33 l' ∧ l'.length = S.length ∧ ∀ j < S.length, vg l' j = Dt (gt f j) := by
  have hF' := hF
  unfold FF at hF'
  intro n
  induction n with
  | zero =>
    intro N i l x hi hN hll hv hx
    obtain ⟨N, rfl⟩ : ∃ N', N = N' + 1 := ⟨N - 1, by omega⟩
    refine ⟨l, ?_, hll, fun j hj => hv j (by omega)⟩
    show law03_FoldCourses_B11 F S jp br y l33 (law03_FoldCourses_L11 F S jp br y l33 N) l x (i : Int) = _
    unfold law03_FoldCourses_B11
    exact bifF (by simp; omega)
  | succ n ih =>
    intro N i l x hi hN hll hv hx
    obtain ⟨N, rfl⟩ : ∃ N', N = N' + 1 := ⟨N - 1, by omega⟩
    obtain ⟨l1, x1, h1, h2, h3, h4⟩ := vfwd_step hF hl hR hG hj hb hfG hf y l33 i (by omega) l hll hv x hx (law03_FoldCourses_L11 F S jp br y l33 N)
    obtain ⟨l', h5, h6⟩ := ih N (i + 1) l1 x1 (by omega) (by omega) h2 h3 h4
    exact ⟨l', (show law03_FoldCourses_L11 F S jp br y l33 (N + 1) l x (i : Int) = law03_FoldCourses_B11 F S jp br y l33 (law03_FoldCourses_L11 F S jp br y l33 N) l x (i : Int) from rfl).trans (h1.trans h5), h6⟩
/-! ### Backward -/
def nextOf (S : Sets) (n : Nat) (x : Int) : Prop := (x = -1 ∧ ∀ q, n ≤ q → q < S.length → ne S q = false) ∨ ∃ m : Nat, x = m ∧ n ≤ m ∧ m < S.length ∧ ne S m = true ∧ ∀ q, n ≤ q → q < m → ne S q = false
theorem vbwd_step (hF : FF ≤ F) (hl : S.length ≤ 100) (hR : ∀ i < S.length, inR (gt S i)) (hG : AllGood S) (hj : 0 ≤ jp ∧ jp ≤ 400000) (hb : br ≤ 16) (hbG : AllGood b) (hB : ∀ j < S.length, pB S br jp b j) (y : Sets × Int) (l3 : List V80) (i : Nat) (hi : i < S.length)
    (l : List V80) (hll : l.length = S.length) (hv : ∀ j, i + 1 ≤ j → j < S.length → vg l j = Dt (gt b j)) (x : Int) (hx : nextOf S (i + 1) x) (k : List V80 → Int → Int → Option Bool) :
    ∃ l' x', law03_FoldCourses_B8 F S jp br y l3 k l x (i : Int) = k l' x' ((i : Int) - 1) ∧ l'.length = S.length ∧ (∀ j, i ≤ j → j < S.length → vg l' j = Dt (gt b j)) ∧ nextOf S i x' := by
  have hF' := hF
  unfold FF at hF'
  have hgi := hG.gt i
  have hlen := hgi.len
  have hRi := hR i hi
  have hd : law03_dots F (gt S i) = some (Dt (gt S i)) := by
    refine dots_eq hF _ ?_ (inR_wide hRi hgi.1.2)
    have := canon_len (lo := -20) (hi := 59) hgi.1 hRi (by omega)
    omega
  unfold law03_FoldCourses_B8
  rw [bifT (decide_eq_true (by omega)), getG (by omega), hd, sb, getW (by omega), setW (by omega), getG (by omega), ne_eq]
  have hl1 : (l.set i (Dt (gt S i))).length = S.length := by rw [List.length_set]; exact hll
  have hv1 : ∀ j, i + 1 ≤ j → j < S.length → vg (l.set i (Dt (gt S i))) j = Dt (gt b j) := fun j hji hjl => by rw [vg_set (by omega), if_neg (by omega)]; exact hv j hji hjl
  have hv2 : vg (l.set i (Dt (gt S i))) i = Dt (gt S i) := by rw [vg_set (by omega), if_pos rfl]
  have hK : ∀ (l' : List V80) (x' : Int), law03_FoldCourses_K9 (i : Int) k l' x' = k l' x' ((i : Int) - 1) := by
    intro l' x'
    unfold law03_FoldCourses_K9
    rw [ckb (by omega)]
  cases hn : ne S i with
  | false =>
    refine ⟨_, x, Eq.trans (bifF rfl) (hK _ _), hl1, fun j hji hjl => ?_, ?_⟩
    · by_cases e : j = i
      · subst e
        rw [hv2, (hB j hi).2 (fun m hm => by have := hm.2.2.1; rw [hn] at this; cases this)]
      · exact hv1 j (by omega) hjl
    · rcases hx with ⟨h1, h2⟩ | ⟨m, h1, h2, h3, h4, h5⟩
      · refine .inl ⟨h1, fun q hq1 hq2 => ?_⟩
        by_cases e : q = i
        · rw [e]; exact hn
        · exact h2 q (by omega) hq2
      · refine .inr ⟨m, h1, by omega, h3, h4, fun q hq1 hq2 => ?_⟩
        by_cases e : q = i
        · rw [e]; exact hn
        · exact h5 q (by omega) hq2
  | true =>
    have hlast : nextOf S i (i : Int) := .inr ⟨i, rfl, Nat.le_refl _, hi, hn, fun q h1 h2 => by omega⟩
    rw [cond_true]
    have hK2 : ∀ (l' : List V80), law03_FoldCourses_K10 (i : Int) k l' = k l' (i : Int) ((i : Int) - 1) := fun l' => by unfold law03_FoldCourses_K10; exact hK _ _
    have hnone : (∀ m, ¬ lk S br i m) → ∀ j, i ≤ j → j < S.length → vg (l.set i (Dt (gt S i))) j = Dt (gt b j) := by
      intro h j hji hjl
      by_cases e : j = i
      · subst e; rw [hv2, (hB j hi).2 h]
      · exact hv1 j (by omega) hjl
    rcases hx with ⟨rfl, h2⟩ | ⟨m, rfl, h2, hml, h3, h4⟩
    · refine ⟨_, (i : Int), ?_, hl1, hnone (fun m hm => by have := h2 m (by have := hm.1; omega) hm.2.1; rw [hm.2.2.2.1] at this; cases this), hlast⟩
      rw [gdF (g := decide ((-1 : Int) ≥ 0) == true && true) rfl, sb]
      exact Eq.trans (bifF rfl) (hK2 _)
    · have e0 : decide ((m : Int) ≥ 0) = true := decide_eq_true (by omega)
      rw [e0, gdT (g := true == true && true) rfl, ckb (by omega), cond_true]
      by_cases hbr : (m : Int) - i ≤ br
      · have hlk : lk S br i m := ⟨by omega, hml, hn, h3, fun q h5 h6 => h4 q (by omega) h6, hbr⟩
        have hdp := dpos hj hb hlk
        have hne := Dt_near hF (a := gt S i) (b := gt b m) (d := jp * ((m : Int) - i)) (hbG.gt m).1.2 hdp (inR_sub (hbG.gt m).1.2 (hR m (by omega)) (fun z hz => sub_B hj hb hbG hB (by omega) hz))
        refine ⟨(l.set i (Dt (gt S i))).set i (Dt (gt b i)), (i : Int), ?_, by rw [List.length_set]; exact hl1, fun j hji hjl => ?_, hlast⟩
        · rw [bifT (decide_eq_true hbr), getW (by omega), hv2, getW (by omega), hv1 m (by omega) hml, ckb (by omega), ckb (by omega), hne, sb, getW (by omega), setW (by omega), hK2, (hB i hi).1 m hlk]
        · rw [vg_set (by omega)]
          by_cases e : i = j
          · rw [if_pos e, e]
          · rw [if_neg e]; exact hv1 j (by omega) hjl
      · refine ⟨_, (i : Int), ?_, hl1, hnone (fun m' hm => ?_), hlast⟩
        · rw [bifF (decide_eq_false hbr)]; exact hK2 _
        · have e : m' = m := by
            by_cases h5 : m' < m
            · have := h4 m' (by have := hm.1; omega) h5
              rw [hm.2.2.2.1] at this; cases this
            · by_cases h6 : m < m'
              · have := hm.2.2.2.2.1 m (by omega) h6
                rw [h3] at this; cases this
              · omega
          subst e
          exact hbr hm.2.2.2.2.2
theorem vbwd_loop (hF : FF ≤ F) (hl : S.length ≤ 100) (hR : ∀ i < S.length, inR (gt S i)) (hG : AllGood S) (hj : 0 ≤ jp ∧ jp ≤ 400000) (hb : br ≤ 16) (hbG : AllGood b) (hB : ∀ j < S.length, pB S br jp b j) (y : Sets × Int) (l3 : List V80) : ∀ (n N : Nat) (l : List V80) (x : Int), n ≤ S.length → n < N → l.length = S.length → (∀ j, n ≤ j → j < S.length → vg l j = Dt (gt b j)) → nextOf S n x →
    ∃ l', law03_FoldCourses_L8 F S jp br y l3 N l x ((n : Int) - 1) = law03_FoldCourses_K2 F S y l3 l' ∧ l'.length = S.length ∧ ∀ j < S.length, vg l' j = Dt (gt b j) := by
  have hF' := hF
  unfold FF at hF'
  intro n
  induction n with
  | zero =>
    intro N l x hi hN hll hv hx
    obtain ⟨N, rfl⟩ : ∃ N', N = N' + 1 := ⟨N - 1, by omega⟩
    refine ⟨l, ?_, hll, fun j hj => hv j (by omega) hj⟩
    show law03_FoldCourses_B8 F S jp br y l3 (law03_FoldCourses_L8 F S jp br y l3 N) l x (((0 : Nat) : Int) - 1) = _
    unfold law03_FoldCourses_B8
    exact bifF rfl
  | succ n ih =>
    intro N l x hi hN hll hv hx
    obtain ⟨N, rfl⟩ : ∃ N', N = N' + 1 := ⟨N - 1, by omega⟩
    have e : (((n + 1 : Nat) : Int) - 1) = (n : Int) := by omega
    rw [e]
    obtain ⟨l1, x1, h1, h2, h3, h4⟩ := vbwd_step hF hl hR hG hj hb hbG hB y l3 n (by omega) l hll hv x hx (law03_FoldCourses_L8 F S jp br y l3 N)
    obtain ⟨l', h5, h6⟩ := ih N l1 x1 (by omega) (by omega) h2 h3 h4
    exact ⟨l', (show law03_FoldCourses_L8 F S jp br y l3 (N + 1) l x (n : Int) = law03_FoldCourses_B8 F S jp br y l3 (law03_FoldCourses_L8 F S jp br y l3 N) l x (n : Int) from rfl).trans (h1.trans h5), h6⟩
/-! ### Both -/
theorem and_loop (y : Sets × Int) (lb : List V80) (i : Nat) (hi : i < lb.length) (k4 : Int → Option Bool) : ∀ (n N q : Nat) (v : V80), q + n = 80 → n < N →
    ∃ w, law03_FoldCourses_L7 F y lb (i : Int) k4 N v (q : Int) = law03_FoldCourses_K6 F y (i : Int) k4 w ∧ ∀ j < 80, vb w j = if q ≤ j then (vb v j && vb (vg lb i) j) else vb v j := by
  intro n
  induction n with
  | zero =>
    intro N q v hq hN
    obtain ⟨N, rfl⟩ : ∃ N', N = N' + 1 := ⟨N - 1, by omega⟩
    refine ⟨v, ?_, fun j hj => by rw [if_neg (by omega)]⟩
    show law03_FoldCourses_B7 F y lb (i : Int) k4 (law03_FoldCourses_L7 F y lb (i : Int) k4 N) v (q : Int) = _
    unfold law03_FoldCourses_B7
    exact bifF (decide_eq_false (by omega))
  | succ n ih =>
    intro N q v hq hN
    obtain ⟨N, rfl⟩ : ∃ N', N = N' + 1 := ⟨N - 1, by omega⟩
    obtain ⟨u, hu, hu2⟩ := setV1 v (i := (q : Int)) (by omega) (bif vb v q then vb (vg lb i) q else false)
    rw [Int.toNat_natCast] at hu2
    obtain ⟨w, hw, hw2⟩ := ih N (q + 1) u (by omega) (by omega)
    refine ⟨w, ?_, fun j hj => ?_⟩
    · have step : law03_FoldCourses_L7 F y lb (i : Int) k4 (N + 1) v (q : Int) = law03_FoldCourses_B7 F y lb (i : Int) k4 (law03_FoldCourses_L7 F y lb (i : Int) k4 N) v (q : Int) := rfl
      rw [step]
      unfold law03_FoldCourses_B7
      rw [bifT (decide_eq_true (by omega)), getVb (by omega), Int.toNat_natCast]
      have hrest : ∀ (c : Bool) (d : Bool), c = vb v q → (bif c then d else false) = (bif vb v q then vb (vg lb i) q else false) → (((getV v (q : Int)).bind fun u1521 => (setV v (q : Int) (bif c then d else false)).bind fun l1522 => (ck ((q : Int) + 1)).bind fun x1523 => law03_FoldCourses_L7 F y lb (i : Int) k4 N l1522 x1523)) = law03_FoldCourses_K6 F y (i : Int) k4 w := by
        intro c d hc hd
        rw [getVb (by omega), hd, hu, sb, ckb (by omega), natS]
        exact hw
      cases hvq : vb v q with
      | true =>
        rw [gdT (g := true == true && true) rfl, getW hi, gdT (g := true == true && true) rfl, getVb (by omega), Int.toNat_natCast]
        exact hrest true _ hvq.symm (by rw [hvq])
      | false =>
        rw [gdF (g := false == true && true) rfl, sb, gdF (g := false == true && true) rfl, sb]
        exact hrest false _ hvq.symm (by rw [hvq]; rfl)
    · rw [hw2 j hj, hu2 j hj]
      by_cases e : j = q
      · subst e
        rw [if_neg (by omega), if_pos rfl, if_pos (Nat.le_refl _)]
        cases vb v j <;> rfl
      · rw [if_neg e]
        by_cases h : q ≤ j
        · rw [if_pos h, if_pos (by omega)]
        · rw [if_neg h, if_neg (by omega)]
theorem end_loop (hF : FF ≤ F) (hl : S.length ≤ 100) (hR : ∀ i < S.length, inR (gt S i)) (hj : 0 ≤ jp ∧ jp ≤ 400000) (hb : br ≤ 16) (hfG : AllGood f) (hpG : AllGood p) (hf : ∀ j < S.length, pF S br jp f j) (hp : p.length = S.length) (hpe : ∀ x < S.length, gt p x = mt (gt f x) (gt b x))
    (la lb : List V80) (ha : la.length = S.length) (hlb : lb.length = S.length) (hva : ∀ j < S.length, vg la j = Dt (gt f j)) (hvb : ∀ j < S.length, vg lb j = Dt (gt b j)) : ∀ (n N i : Nat), i + n = S.length → n < N → law03_FoldCourses_L4 F S (p, 0) la lb N (i : Int) = some true := by
  have hF' := hF
  unfold FF at hF'
  intro n
  induction n with
  | zero =>
    intro N i hi hN
    obtain ⟨N, rfl⟩ : ∃ N', N = N' + 1 := ⟨N - 1, by omega⟩
    show law03_FoldCourses_B4 F S (p, 0) la lb (law03_FoldCourses_L4 F S (p, 0) la lb N) (i : Int) = _
    unfold law03_FoldCourses_B4
    rw [bifF (by simp; omega)]; rfl
  | succ n ih =>
    intro N i hi hN
    obtain ⟨N, rfl⟩ : ∃ N', N = N' + 1 := ⟨N - 1, by omega⟩
    show law03_FoldCourses_B4 F S (p, 0) la lb (law03_FoldCourses_L4 F S (p, 0) la lb N) (i : Int) = _
    unfold law03_FoldCourses_B4
    obtain ⟨w, hw, hw2⟩ := and_loop (F := F) (p, 0) lb i (by omega) (law03_FoldCourses_L4 F S (p, 0) la lb N) 80 F 0 (vg la i) (by omega) (by omega)
    have hwe : w = Dt (gt p i) := by
      apply vb_ext
      intro j hj
      rw [hw2 j hj, if_pos (by omega), hva i (by omega), hvb i (by omega), vb_Dt hj, vb_Dt hj, vb_Dt hj, Bool.eq_iff_iff, Bool.and_eq_true, dt_mem, dt_mem, dt_mem, hpe i (by omega), mt_mem]
    have hgp := hpG.gt i
    have hRp : inR (gt p i) := inR_sub hgp.1.2 (hR i (by omega)) (fun z hz => by
      rw [hpe i (by omega)] at hz
      exact sub_F hj hb hfG hf (by omega) ((mt_mem _ _ z).1 hz).1)
    have hlen := canon_len (lo := -20) (hi := 59) hgp.1 hRp (by omega)
    rw [bifT (by simp; omega), getW (by omega)]
    refine hw.trans ?_
    unfold law03_FoldCourses_K6
    rw [getG (f := p) (by omega), dots_eq hF _ (by omega) (inR_wide hRp hgp.1.2), sb, hwe, decide_eq_true (rfl : Dt (gt p i) = Dt (gt p i))]
    refine Eq.trans (bifF rfl) ?_
    rw [getG (f := p) (by omega), formed_eq hF _ (by omega) hgp.1 hRp, sb]
    refine Eq.trans (bifF rfl) ?_
    unfold law03_FoldCourses_K5
    rw [ckb (by omega), natS]
    exact ih N (i + 1) (by omega) (by omega)
end
theorem mk_eq {F : Nat} (n : Nat) (h : n ≤ 100) : mkI 80 ((n : Nat) : Int) (default : V80) = some (List.replicate n default) := by
  unfold mkI
  rw [Int.toNat_natCast, if_pos (by omega)]
theorem FoldCourses_eq (F : Nat) (hF : FF ≤ F) (p0 : List (List Int)) (h0 : ∀ r ∈ p0, ∀ b ∈ r, 0 ≤ b ∧ b ≤ 255) (p1 p2 : Int) (h1 : 0 ≤ p1 ∧ p1 ≤ 255) (h2 : 0 ≤ p2 ∧ p2 ≤ 255) : law03_FoldCourses F p0 p1 p2 = some true := by
  have hF' := hF
  unfold FF at hF'
  unfold law03_FoldCourses
  by_cases h7 : p0.length > 7
  · rw [bifT (decide_eq_true (by omega))]; rfl
  · rw [bifF (decide_eq_false (by omega))]
    obtain ⟨S, hS, hSl, hSok⟩ := made_eq hF p0 h0 (by omega)
    have hgS : ∀ s ∈ S, s.length ≤ 256 ∧ Good s := fun s hs => ⟨by have := okR_len (hSok s hs) (by omega); omega, okR_good (hSok s hs)⟩
    have hG : AllGood S := fun s hs => (hgS s hs).2
    have hR : ∀ i < S.length, inR (gt S i) := by
      intro i hi s hs
      have hm : gt S i ∈ S := by
        unfold gt
        rw [List.getD_eq_getElem?_getD, List.getElem?_eq_getElem hi]
        exact List.getElem_mem hi
      have := (hSok _ hm).2 s hs
      omega
    have hj : 0 ≤ p1 % 13 ∧ p1 % 13 ≤ 400000 := by omega
    have hb : 1 ≤ 1 + p2 % 3 ∧ 1 + p2 % 3 ≤ 16 := by omega
    obtain ⟨f, b, p, a1, a2, a3, a4, a5, a6, a7, a8⟩ := ray_full hF (S := S) (by omega) hgS hj hb
    rw [hS, sb, ckb (by omega), rem1 (by omega) (by omega), sb, ckb (by omega), rem1 (by omega) (by omega), sb, ckb (by omega), a1, sb]
    have hc : (bif ((0 : Int) != 0) then true else (((p.length : Nat) : Int) != ((S.length : Nat) : Int))) = false := by
      rw [a2]; simp
    refine Eq.trans (bifF hc) ?_
    rw [mk_eq (F := F) S.length (by omega), sb, sb]
    obtain ⟨la, b1, b2, b3⟩ := vfwd_loop hF (by omega) hR hG hj hb.2 a3 a6 (p, 0) (List.replicate S.length default) S.length F 0 (List.replicate S.length default) (-1) (by omega) (by omega) (by simp) (fun j h => by omega) (.inl ⟨rfl, fun q h => by omega⟩)
    refine Eq.trans b1 ?_
    unfold law03_FoldCourses_K1
    rw [ckb (by omega)]
    obtain ⟨lb, c1, c2, c3⟩ := vbwd_loop hF (by omega) hR hG hj hb.2 a4 a7 (p, 0) la S.length F (List.replicate S.length default) (-1) (Nat.le_refl _) (by omega) (by simp) (fun j h1 h2 => by omega) (.inl ⟨rfl, fun q h1 h2 => by omega⟩)
    refine Eq.trans c1 ?_
    unfold law03_FoldCourses_K2
    exact end_loop hF (by omega) hR hj hb.2 a3 a5 a6 a2 a8 la lb b2 c2 b3 c3 S.length F 0 (by omega) (by omega)
end Go.Proofs.Ytbhjgebjojdohaa
