/- Chapter 3, plain: trains, echoes and speeds of the program are those of the document. -/
import Derived.Test.YtbhjgebjojdohaaF4XD
namespace Go.Proofs.Ytbhjgebjojdohaa
open Go Go.RowKit Go.Eng
set_option maxRecDepth 10000
set_option linter.unusedVariables false
set_option linter.unusedSimpArgs false
theorem ckb {β : Type} {x : Int} {f : Int → Option β} (h : -9000000000000000000 ≤ x ∧ x ≤ 9000000000000000000) : (ck x).bind f = f x := by
  unfold ck; rw [if_pos (by omega)]; rfl
theorem gdT {α : Type} {g : Bool} {o : Option α} {d : α} (h : g = true) : gd g o d = o := by subst h; rfl
theorem gdF {α : Type} {g : Bool} {o : Option α} {d : α} (h : g = false) : gd g o d = some d := by subst h; rfl
theorem bifT {α : Type} {c : Bool} {x y : α} (h : c = true) : (bif c then x else y) = x := by rw [h]; rfl
theorem bifF {α : Type} {c : Bool} {x y : α} (h : c = false) : (bif c then x else y) = y := by rw [h]; rfl
theorem sb {α β : Type} {x : α} {f : α → Option β} : (some x).bind f = f x := rfl
theorem getb {α β : Type} {l : List α} {i : Int} {f : α → Option β} (d : α) (h : 0 ≤ i ∧ i < l.length) : (getI l i).bind f = f (l.getD i.toNat d) := by
  unfold getI
  rw [if_pos h.1, List.getElem?_eq_getElem (by omega), List.getD_eq_getElem?_getD, List.getElem?_eq_getElem (by omega)]
  rfl
theorem apdb {α β : Type} {l k : List α} {B : Nat} {f : List α → Option β} (h : (l.length + k.length) * B ≤ 140737488355328 ∧ l.length + k.length ≤ 9223372036854775807) : (apd B l k).bind f = f (l ++ k) := by
  unfold apd
  rw [if_pos h]
  rfl
/-- What a valid echo is. -/
def inB (s : api_Span) (lo hi : Int) : Bool := decide (lo ≤ s.Lo ∧ s.Lo ≤ s.Hi ∧ s.Hi ≤ hi)
theorem valid_in (s : api_Span) (lo hi : Int) : ref01_Valid s lo hi = inB s lo hi := by
  unfold ref01_Valid inB; rw [Bool.eq_iff_iff]; simp [cond_eq_ite]; omega
/-! ### Quotients -/
end Go.Proofs.Ytbhjgebjojdohaa
/- Chapter 3, plain: times and speeds. -/
namespace Go.Proofs.Ytbhjgebjojdohaa
open Go Go.RowKit Go.Eng
set_option maxRecDepth 10000
set_option linter.unusedVariables false
set_option linter.unusedSimpArgs false
def us (t : ref02_Train) (w : Int) : Int := if w = 0 then t.First else t.Second
/-- The speeds of a step, after whole turns. -/
def spd (t : ref02_Train) (w : Int) (s : api_Span) (k : Int) : api_Span :=
  ⟨500 * t.Lambda * (s.Lo + k * 65536) / (65536 * us t w), -(-(500 * t.Lambda * (s.Hi + k * 65536)) / (65536 * us t w))⟩
/-! ### Within a bound -/
def comm (a b : api_Span) : api_Span := ⟨if b.Lo > a.Lo then b.Lo else a.Lo, if b.Hi < a.Hi then b.Hi else a.Hi⟩
def stepOf (x : api_Echo) (w : Int) : api_Span := if w = 0 then x.Steps.1 else x.Steps.2
/-- The speeds of an echo for a time and whole turns, within a bound. -/
def spw (t : ref02_Train) (x : api_Echo) (m : Int) (w k : Int) : api_Span := comm (spd t w (stepOf x w) k) ⟨-m, m⟩
def isw (t : ref02_Train) (x : api_Echo) (m : Int) (w k : Int) : Bool := decide ((spw t x m w k).Lo ≤ (spw t x m w k).Hi)
end Go.Proofs.Ytbhjgebjojdohaa
/- Chapter 3, plain: the options of an echo. -/
namespace Go.Proofs.Ytbhjgebjojdohaa
open Go Go.RowKit Go.Eng
set_option maxRecDepth 10000
set_option linter.unusedVariables false
set_option linter.unusedSimpArgs false
section
variable {t : ref02_Train} {x : api_Echo} {m w : Int}
end
end Go.Proofs.Ytbhjgebjojdohaa
/- Chapter 3, plain: the guesses of the program and those of the document. -/
namespace Go.Proofs.Ytbhjgebjojdohaa
open Go Go.RowKit Go.Eng
set_option maxRecDepth 10000
set_option linter.unusedVariables false
set_option linter.unusedSimpArgs false
theorem drop_cons {α : Type} {l : List α} {i : Nat} (h : i < l.length) (d : α) : l.drop i = l.getD i d :: l.drop (i + 1) := by
  rw [List.drop_eq_getElem_cons h, List.getD_eq_getElem?_getD, List.getElem?_eq_getElem h]; rfl
/-! ### The program's loops -/
/-! ### The document's loops -/
section
variable {t : ref02_Train} {x : api_Echo} {m : Int}
end
end Go.Proofs.Ytbhjgebjojdohaa
/- Chapter 3, plain: the law FoldGuesses. -/
namespace Go.Proofs.Ytbhjgebjojdohaa
open Go Go.RowKit Go.Eng
set_option maxRecDepth 10000
set_option linter.unusedVariables false
set_option linter.unusedSimpArgs false
def conv (g : fold_Guess) : ref03_Guess := ⟨g.Whole, g.Speed⟩
section
variable {t : ref02_Train} {x : api_Echo} {m : Int}
def badW (t : ref02_Train) (x : api_Echo) (m w : Int) : Prop := isw t x m w (-64) = true ∨ isw t x m w 64 = true
instance (w : Int) : Decidable (badW t x m w) := by unfold badW; infer_instance
end
end Go.Proofs.Ytbhjgebjojdohaa
/- Chapter 3, plain: the law FoldUnions. -/
namespace Go.Proofs.Ytbhjgebjojdohaa
open Go Go.RowKit Go.Eng
set_option maxRecDepth 10000
set_option linter.unusedVariables false
set_option linter.unusedSimpArgs false
/-! ### Sorting -/
theorem sort_span (F : Nat) (l : List api_Span) (hb : ∀ s ∈ l, spB s) (hl : l.length < 4611686018427387904) : ∃ l', slices_SortFunc100 F l = some l' ∧ l'.Perm l ∧ l'.Pairwise (fun x y => x.Lo ≤ y.Lo) := by
  unfold slices_SortFunc100
  rw [dif_pos ⟨hb, hl⟩]
  have hlt : ∀ x y : {s : api_Span // spB s}, Go.Proofs.ltOf spCmp x y = decide (x.val.Lo < y.val.Lo) := by
    intro x y
    unfold Go.Proofs.ltOf spCmp
    congr 1
    simp only [eq_iff_iff]
    omega
  have hO : Go.Sort.SWO (Go.Proofs.ltOf spCmp) := by
    constructor
    · intro x; rw [hlt]; simp
    · intro x y z h1 h2; rw [hlt] at *; simp at *; omega
    · intro x y z h1 h2; rw [hlt] at *; simp at *; omega
  obtain ⟨_, h2, h3⟩ := sortL_facts spCmp hO (l.pmap Subtype.mk hb)
  refine ⟨_, rfl, ?_, ?_⟩
  · have := h2.map Subtype.val
    refine this.trans ?_
    rw [List.map_pmap]
    simp
  · rw [List.pairwise_map]
    refine h3.imp ?_
    intro x y h
    rw [hlt] at h
    simpa using h
/-! ### What is merged -/
def mg : api_Span → List api_Span → List api_Span
  | c, [] => [c]
  | c, x :: xs => if x.Lo ≤ c.Hi then mg ⟨c.Lo, if x.Hi > c.Hi then x.Hi else c.Hi⟩ xs else c :: mg x xs
def mergeL : List api_Span → List api_Span
  | [] => []
  | x :: xs => mg x xs
def closed (l : List api_Span) (H : Int) : Prop := ∀ x ∈ l, x.Lo ≤ H → x.Hi ≤ H
theorem mg_head : ∀ (xs : List api_Span) (c : api_Span), xs.Pairwise (fun x y => x.Lo ≤ y.Lo) → ∃ H, mg c xs = ⟨c.Lo, H⟩ :: mergeL (xs.filter (fun x => decide (x.Lo > H))) ∧ c.Hi ≤ H ∧ closed xs H ∧ ∀ K, c.Hi ≤ K → closed xs K → H ≤ K := by
  intro xs
  induction xs with
  | nil => intro c _; exact ⟨c.Hi, rfl, Int.le_refl _, (fun x hx => by cases hx), fun K h _ => h⟩
  | cons x xs ih =>
    intro c hs
    rw [List.pairwise_cons] at hs
    by_cases h : x.Lo ≤ c.Hi
    · obtain ⟨H, h1, h2, h3, h4⟩ := ih ⟨c.Lo, if x.Hi > c.Hi then x.Hi else c.Hi⟩ hs.2
      have hc : c.Hi ≤ H ∧ x.Hi ≤ H := by simp only at h2; split at h2 <;> omega
      refine ⟨H, ?_, hc.1, ?_, ?_⟩
      · unfold mg
        rw [if_pos h, h1, List.filter_cons_of_neg (by simp; omega)]
      · intro y hy hyl
        rcases List.mem_cons.1 hy with rfl | hy
        · exact hc.2
        · exact h3 y hy hyl
      · intro K hK hcl
        have := hcl x (by simp) (by omega)
        exact h4 K (by simp only; split <;> omega) (fun y hy => hcl y (by simp [hy]))
    · refine ⟨c.Hi, ?_, Int.le_refl _, ?_, fun K h _ => h⟩
      · have hall : (x :: xs).filter (fun x => decide (x.Lo > c.Hi)) = x :: xs := by
          rw [List.filter_eq_self]
          intro y hy
          rcases List.mem_cons.1 hy with rfl | hy
          · simp; omega
          · have := hs.1 y hy; simp; omega
        rw [hall]
        unfold mg
        rw [if_neg h]
        rfl
      · intro y hy hyl
        rcases List.mem_cons.1 hy with rfl | hy
        · omega
        · have := hs.1 y hy; omega
/-! ### The program's union -/
theorem united_loop (y : List api_Span) : ∀ (n N i : Nat) (pre : List api_Span) (c : api_Span), i + n = y.length → n < N → pre.length + n ≤ 1000000 → y.length ≤ 1000000 →
    fold_speeds_united_L2 y N (i : Int) (pre ++ [c]) = some (pre ++ mg c (y.drop i)) := by
  intro n
  induction n with
  | zero =>
    intro N i pre c hi hN hp hi2
    obtain ⟨N, rfl⟩ : ∃ N', N = N' + 1 := ⟨N - 1, by omega⟩
    show fold_speeds_united_B2 y (fold_speeds_united_L2 y N) (i : Int) (pre ++ [c]) = _
    unfold fold_speeds_united_B2
    rw [bifF (by simp; omega), List.drop_eq_nil_of_le (by omega)]
    rfl
  | succ n ih =>
    intro N i pre c hi hN hp hi2
    obtain ⟨N, rfl⟩ : ∃ N', N = N' + 1 := ⟨N - 1, by omega⟩
    show fold_speeds_united_B2 y (fold_speeds_united_L2 y N) (i : Int) (pre ++ [c]) = _
    unfold fold_speeds_united_B2
    rw [drop_cons (i := i) (by omega) default]
    rw [bifT (by simp; omega), getb default (by omega), Int.toNat_natCast]
    generalize y.getD i default = x
    have hlen : (pre ++ [c]).length = pre.length + 1 := by simp
    have hpos : decide ((((pre ++ [c]).length : Nat) : Int) > 0) = true := by rw [hlen]; simp
    have hidx : ((((pre ++ [c]).length : Nat) : Int) - 1) = (pre.length : Nat) := by rw [hlen]; omega
    have hget : (pre ++ [c]).getD pre.length default = c := by simp [List.getD_eq_getElem?_getD]
    simp only [hpos]
    rw [gdT (g := true == true && true) rfl, ckb (by rw [hlen]; omega), gdT (g := true == true && true) rfl, hidx, getb default (by rw [hlen]; omega), Int.toNat_natCast, hget]
    unfold fold_speeds_united_K3
    have hck : ∀ (l : List api_Span), (ck ((i : Int) + 1)).bind (fun x179 => fold_speeds_united_L2 y N x179 l) = fold_speeds_united_L2 y N (((i + 1 : Nat) : Int)) l := fun l => by rw [ckb (by omega), Int.natCast_add]; rfl
    by_cases h : x.Lo ≤ c.Hi
    · refine Eq.trans (bifT (by simpa using h)) ?_
      rw [ckb (by omega), ckb (by omega), getb default (by rw [hlen]; omega), getb default (by rw [hlen]; omega), Int.toNat_natCast, hget]
      unfold setI
      rw [if_pos (by rw [hlen]; omega), sb, Int.toNat_natCast, hck]
      have hset : (pre ++ [c]).set pre.length ⟨c.Lo, if x.Hi > c.Hi then x.Hi else c.Hi⟩ = pre ++ [⟨c.Lo, if x.Hi > c.Hi then x.Hi else c.Hi⟩] := by simp
      rw [hset, ih N (i + 1) _ _ (by omega) (by omega) (by omega) (by omega)]
      conv => rhs; unfold mg
      rw [if_pos h]
    · refine Eq.trans (bifF (by simpa using h)) ?_
      rw [apdb (by rw [hlen]; simp; omega), hck, ih N (i + 1) (pre ++ [c]) x (by omega) (by omega) (by rw [hlen]; omega) (by omega)]
      conv => rhs; unfold mg
      rw [if_neg h]
      simp
theorem united_sorted (F : Nat) (y : List api_Span) (hy : y.length < F) (hl : y.length ≤ 100000) : fold_speeds_united_L2 y F 0 [] = some (mergeL y) := by
  obtain ⟨N, rfl⟩ : ∃ N', F = N' + 1 := ⟨F - 1, by omega⟩
  show fold_speeds_united_B2 y (fold_speeds_united_L2 y N) 0 [] = _
  unfold fold_speeds_united_B2
  cases y with
  | nil => rfl
  | cons x xs =>
    have hpos : decide (((([] : List api_Span).length : Nat) : Int) > 0) = false := rfl
    rw [bifT (by simp), getb default (by simp)]
    simp only [hpos]
    rw [gdF (g := false == true && true) rfl, sb, gdF (g := false == true && true) rfl, sb]
    refine Eq.trans (bifF rfl) ?_
    rw [apdb (by simp)]
    unfold fold_speeds_united_K3
    rw [ckb (by omega)]
    have := united_loop (x :: xs) xs.length N 1 [] x (by simp; omega) (by simp at hy; omega) (by simp at hl ⊢; omega) (by omega)
    exact this
theorem united_eq (F : Nat) (l : List api_Span) (hF : l.length < F) (hl : l.length ≤ 100000) (hb : ∀ s ∈ l, spB s) : ∃ l', fold_speeds_united F l = some (mergeL l') ∧ l'.Perm l ∧ l'.Pairwise (fun x y => x.Lo ≤ y.Lo) := by
  obtain ⟨l', h1, h2, h3⟩ := sort_span F l hb (by omega)
  refine ⟨l', ?_, h2, h3⟩
  unfold fold_speeds_united slices_Clone_fold_speeds_api_Span
  have hlen := h2.length_eq
  rw [apdb (by simp; omega), sb, List.nil_append, h1, sb, united_sorted F l' (by omega) (by omega)]
/-! ### The document's union -/
section
variable {out left : List api_Span} {k2 : List api_Span → List api_Span → Option (List api_Span)}
theorem filter_loop (hl : left.length ≤ 100000) (ho : out.length ≤ 100000) (m H : Int) : ∀ (n N i : Nat) (acc : List api_Span), i + n = left.length → n < N → acc.length + n ≤ 1000000 →
    ref03_united_L6 out left k2 m H N (i : Int) acc = k2 (out ++ [⟨m, H⟩]) (acc ++ (left.drop i).filter (fun x => decide (x.Lo > H))) := by
  intro n
  induction n with
  | zero =>
    intro N i acc hi hN ha
    obtain ⟨N, rfl⟩ : ∃ N', N = N' + 1 := ⟨N - 1, by omega⟩
    show ref03_united_B6 out left k2 m H (ref03_united_L6 out left k2 m H N) (i : Int) acc = _
    unfold ref03_united_B6
    rw [bifF (by simp; omega), List.drop_eq_nil_of_le (by omega)]
    unfold ref03_united_K5
    rw [apdb (by simp; omega)]
    simp
  | succ n ih =>
    intro N i acc hi hN ha
    obtain ⟨N, rfl⟩ : ∃ N', N = N' + 1 := ⟨N - 1, by omega⟩
    show ref03_united_B6 out left k2 m H (ref03_united_L6 out left k2 m H N) (i : Int) acc = _
    unfold ref03_united_B6
    rw [drop_cons (i := i) (by omega) default]
    rw [bifT (by simp; omega), getb default (by omega), getb default (by omega), Int.toNat_natCast]
    generalize left.getD i default = x
    unfold ref03_united_K7
    have hck : ∀ (l : List api_Span), (ck ((i : Int) + 1)).bind (fun x2455 => ref03_united_L6 out left k2 m H N x2455 l) = ref03_united_L6 out left k2 m H N (((i + 1 : Nat) : Int)) l := fun l => by rw [ckb (by omega), Int.natCast_add]; rfl
    by_cases h : x.Lo > H
    · rw [bifT (by simpa using h), apdb (by simp; omega), hck, ih N (i + 1) _ (by omega) (by omega) (by simp; omega), List.filter_cons_of_pos (by simpa using h)]
      simp
    · rw [bifF (by simpa using h), hck, ih N (i + 1) _ (by omega) (by omega) (by omega), List.filter_cons_of_neg (by simpa using h)]
def pass : Int → Bool → List api_Span → Int × Bool
  | H, c, [] => (H, c)
  | H, c, x :: xs => if x.Lo ≤ H ∧ x.Hi > H then pass x.Hi true xs else pass H c xs
theorem pass_true : ∀ (xs : List api_Span) (H : Int), (pass H true xs).2 = true := by
  intro xs
  induction xs with
  | nil => intro H; rfl
  | cons x xs ih => intro H; unfold pass; split <;> exact ih _
theorem pass_le : ∀ (xs : List api_Span) (H : Int) (c : Bool), H ≤ (pass H c xs).1 := by
  intro xs
  induction xs with
  | nil => intro H c; exact Int.le_refl _
  | cons x xs ih =>
    intro H c
    unfold pass
    split
    · have := ih x.Hi true; omega
    · exact ih H c
theorem pass_min : ∀ (xs : List api_Span) (H : Int) (c : Bool) (K : Int), H ≤ K → closed xs K → (pass H c xs).1 ≤ K := by
  intro xs
  induction xs with
  | nil => intro H c K h _; exact h
  | cons x xs ih =>
    intro H c K h hc
    unfold pass
    split
    · rename_i hx
      exact ih _ _ K (hc x (by simp) (by omega)) (fun y hy => hc y (by simp [hy]))
    · exact ih _ _ K h (fun y hy => hc y (by simp [hy]))
theorem pass_false : ∀ (xs : List api_Span) (H : Int), (pass H false xs).2 = false → (pass H false xs).1 = H ∧ closed xs H := by
  intro xs
  induction xs with
  | nil => intro H _; exact ⟨rfl, fun x hx => by cases hx⟩
  | cons x xs ih =>
    intro H h
    unfold pass at h ⊢
    split
    · rename_i hx
      rw [if_pos hx, pass_true] at h
      cases h
    · rename_i hx
      rw [if_neg hx] at h
      obtain ⟨h1, h2⟩ := ih H h
      refine ⟨h1, ?_⟩
      intro y hy hyl
      rcases List.mem_cons.1 hy with rfl | hy
      · omega
      · exact h2 y hy hyl
theorem pass_grow : ∀ (xs : List api_Span) (H : Int) (c : Bool), (pass H c xs).1 = H ∨ (H < (pass H c xs).1 ∧ ∃ x ∈ xs, x.Hi = (pass H c xs).1) := by
  intro xs
  induction xs with
  | nil => intro H c; exact .inl rfl
  | cons x xs ih =>
    intro H c
    unfold pass
    split
    · rename_i hx
      rcases ih x.Hi true with h | ⟨h, y, hy, hyh⟩
      · rw [h]; exact .inr ⟨by omega, x, by simp, rfl⟩
      · exact .inr ⟨by omega, y, by simp [hy], hyh⟩
    · rcases ih H c with h | ⟨h, y, hy, hyh⟩
      · exact .inl h
      · exact .inr ⟨h, y, by simp [hy], hyh⟩
theorem pass_same : ∀ (xs : List api_Span) (H : Int), (pass H false xs).1 = H → (pass H false xs).2 = false := by
  intro xs
  induction xs with
  | nil => intro H _; rfl
  | cons x xs ih =>
    intro H h
    unfold pass at h ⊢
    split
    · rename_i hx
      rw [if_pos hx] at h
      have := pass_le xs x.Hi true
      omega
    · rename_i hx
      rw [if_neg hx] at h
      exact ih H h
theorem scan_loop (hl : left.length ≤ 100000) (k8 : Int → Bool → Option (List api_Span)) : ∀ (n N i : Nat) (H : Int) (c : Bool), i + n = left.length → n < N →
    ref03_united_L9 left k8 N H c (i : Int) = k8 (pass H c (left.drop i)).1 (pass H c (left.drop i)).2 := by
  intro n
  induction n with
  | zero =>
    intro N i H c hi hN
    obtain ⟨N, rfl⟩ : ∃ N', N = N' + 1 := ⟨N - 1, by omega⟩
    show ref03_united_B9 left k8 (ref03_united_L9 left k8 N) H c (i : Int) = _
    unfold ref03_united_B9
    rw [bifF (by simp; omega), List.drop_eq_nil_of_le (by omega)]
    rfl
  | succ n ih =>
    intro N i H c hi hN
    obtain ⟨N, rfl⟩ : ∃ N', N = N' + 1 := ⟨N - 1, by omega⟩
    show ref03_united_B9 left k8 (ref03_united_L9 left k8 N) H c (i : Int) = _
    unfold ref03_united_B9
    rw [drop_cons (i := i) (by omega) default]
    rw [bifT (by simp; omega), getb default (by omega), Int.toNat_natCast]
    have hgb : ∀ {β : Type} (f : api_Span → Option β), (getI left (i : Int)).bind f = f (left.getD i default) := fun f => by rw [getb default (by omega), Int.toNat_natCast]
    obtain ⟨x, hx⟩ : ∃ x, left.getD i default = x := ⟨_, rfl⟩
    rw [hx] at hgb ⊢
    unfold ref03_united_K10
    have hck : ∀ (H : Int) (c : Bool), (ck ((i : Int) + 1)).bind (fun x2575 => ref03_united_L9 left k8 N H c x2575) = ref03_united_L9 left k8 N H c (((i + 1 : Nat) : Int)) := fun H c => by rw [ckb (by omega), Int.natCast_add]; rfl
    by_cases h1 : x.Lo ≤ H
    · have e1 : decide (x.Lo ≤ H) = true := by simpa using h1
      rw [e1, gdT (g := true == true && true) rfl, hgb]
      by_cases h2 : x.Hi > H
      · rw [bifT (by simpa using h2), hgb, hck, ih N (i + 1) _ _ (by omega) (by omega)]
        conv => rhs; unfold pass
        rw [if_pos ⟨h1, h2⟩]
      · rw [bifF (by simpa using h2), hck, ih N (i + 1) _ _ (by omega) (by omega)]
        conv => rhs; unfold pass
        rw [if_neg (by omega)]
    · have e1 : decide (x.Lo ≤ H) = false := by simpa using h1
      rw [e1, gdF (g := false == true && true) rfl, sb]
      refine Eq.trans (bifF rfl) ?_
      rw [hck, ih N (i + 1) _ _ (by omega) (by omega)]
      conv => rhs; unfold pass
      rw [if_neg (by omega)]
theorem grow_loop (F : Nat) (hF : left.length < F) (hl : left.length ≤ 100000) (m : Int) : ∀ (q N : Nat) (H : Int), (left.filter (fun x => decide (x.Hi > H))).length ≤ q → q + 2 ≤ N →
    ∃ H', ref03_united_L8 F out left k2 m N H true = ref03_united_K4 F out left k2 m H' ∧ H ≤ H' ∧ closed left H' ∧ ∀ K, H ≤ K → closed left K → H' ≤ K := by
  intro q
  induction q with
  | zero =>
    intro N H hq hN
    obtain ⟨N, rfl⟩ : ∃ N', N = N' + 2 := ⟨N - 2, by omega⟩
    have hs := scan_loop (left := left) hl (ref03_united_L8 F out left k2 m (N + 1)) left.length F 0 H false (by omega) hF
    rw [List.drop_zero] at hs
    have hno : (pass H false left).1 = H := by
      rcases pass_grow left H false with h | ⟨h, x, hx, hxh⟩
      · exact h
      · have : x ∈ left.filter (fun x => decide (x.Hi > H)) := List.mem_filter.2 ⟨hx, by simp; omega⟩
        have := List.length_pos_of_mem this
        omega
    have h2 := pass_same left H hno
    rw [hno, h2] at hs
    refine ⟨H, ?_, Int.le_refl _, (pass_false left H h2).2, fun K h _ => h⟩
    show ref03_united_B8 F out left k2 m (ref03_united_L8 F out left k2 m (N + 1)) H true = _
    unfold ref03_united_B8
    refine Eq.trans (bifT rfl) (Eq.trans hs ?_)
    rfl
  | succ q ih =>
    intro N H hq hN
    obtain ⟨N, rfl⟩ : ∃ N', N = N' + 2 := ⟨N - 2, by omega⟩
    have hs := scan_loop (left := left) hl (ref03_united_L8 F out left k2 m (N + 1)) left.length F 0 H false (by omega) hF
    rw [List.drop_zero] at hs
    cases h2 : (pass H false left).2 with
    | false =>
      obtain ⟨h3, h4⟩ := pass_false left H h2
      rw [h3, h2] at hs
      refine ⟨H, ?_, Int.le_refl _, h4, fun K h _ => h⟩
      show ref03_united_B8 F out left k2 m (ref03_united_L8 F out left k2 m (N + 1)) H true = _
      unfold ref03_united_B8
      refine Eq.trans (bifT rfl) (Eq.trans hs ?_)
      rfl
    | true =>
      rw [h2] at hs
      have hne : (pass H false left).1 ≠ H := fun h => by rw [pass_same left H h] at h2; cases h2
      rcases pass_grow left H false with h | ⟨h, x, hx, hxh⟩
      · exact absurd h hne
      have hlt : (left.filter (fun x => decide (x.Hi > (pass H false left).1))).length < (left.filter (fun x => decide (x.Hi > H))).length := by
        have e : left.filter (fun x => decide (x.Hi > (pass H false left).1)) = (left.filter (fun x => decide (x.Hi > H))).filter (fun x => decide (x.Hi > (pass H false left).1)) := by
          rw [List.filter_filter]
          apply List.filter_congr
          intro y _
          simp
          omega
        rw [e]
        apply List.length_filter_lt_length_iff_exists.2
        exact ⟨x, List.mem_filter.2 ⟨hx, by simp; omega⟩, by simp; omega⟩
      obtain ⟨H', e1, e2, e3, e4⟩ := ih (N + 1) (pass H false left).1 (by omega) (by omega)
      refine ⟨H', ?_, by omega, e3, fun K hK hc => e4 K (pass_min left H false K hK hc) hc⟩
      show ref03_united_B8 F out left k2 m (ref03_united_L8 F out left k2 m (N + 1)) H true = _
      unfold ref03_united_B8
      exact Eq.trans (bifT rfl) (Eq.trans hs e1)
theorem min_loop (F : Nat) (hl : left.length ≤ 100000) : ∀ (n N i : Nat) (m h : Int), i + n = left.length → n < N →
    ∃ m' h', ref03_united_L11 F out left k2 N m h (i : Int) = ref03_united_K3 F out left k2 m' h' ∧ m' ≤ m ∧ (∀ x ∈ left.drop i, m' ≤ x.Lo) ∧ ((m' = m ∧ h' = h) ∨ ∃ x ∈ left.drop i, x.Lo = m' ∧ x.Hi = h') := by
  intro n
  induction n with
  | zero =>
    intro N i m h hi hN
    obtain ⟨N, rfl⟩ : ∃ N', N = N' + 1 := ⟨N - 1, by omega⟩
    refine ⟨m, h, ?_, Int.le_refl _, ?_, .inl ⟨rfl, rfl⟩⟩
    · show ref03_united_B11 F out left k2 (ref03_united_L11 F out left k2 N) m h (i : Int) = _
      unfold ref03_united_B11
      rw [bifF (by simp; omega)]
    · rw [List.drop_eq_nil_of_le (by omega)]; intro x hx; cases hx
  | succ n ih =>
    intro N i m h hi hN
    obtain ⟨N, rfl⟩ : ∃ N', N = N' + 1 := ⟨N - 1, by omega⟩
    have hgb : ∀ {β : Type} (f : api_Span → Option β), (getI left (i : Int)).bind f = f (left.getD i default) := fun f => by rw [getb default (by omega), Int.toNat_natCast]
    rw [drop_cons (i := i) (by omega) default]
    obtain ⟨x, hx⟩ : ∃ x, left.getD i default = x := ⟨_, rfl⟩
    rw [hx] at hgb ⊢
    have hck : ∀ (a b : Int), (ck ((i : Int) + 1)).bind (fun x2608 => ref03_united_L11 F out left k2 N a b x2608) = ref03_united_L11 F out left k2 N a b (((i + 1 : Nat) : Int)) := fun a b => by rw [ckb (by omega), Int.natCast_add]; rfl
    by_cases hlt : x.Lo < m
    · obtain ⟨m', h', e1, e2, e3, e4⟩ := ih N (i + 1) x.Lo x.Hi (by omega) (by omega)
      refine ⟨m', h', ?_, by omega, ?_, ?_⟩
      · show ref03_united_B11 F out left k2 (ref03_united_L11 F out left k2 N) m h (i : Int) = _
        unfold ref03_united_B11 ref03_united_K12
        rw [bifT (by simp; omega), hgb, bifT (by simpa using hlt), hgb, hck, e1]
      · intro y hy
        rcases List.mem_cons.1 hy with rfl | hy
        · exact e2
        · exact e3 y hy
      · rcases e4 with ⟨rfl, rfl⟩ | ⟨y, hy, e⟩
        · exact .inr ⟨x, by simp, rfl, rfl⟩
        · exact .inr ⟨y, by simp [hy], e⟩
    · obtain ⟨m', h', e1, e2, e3, e4⟩ := ih N (i + 1) m h (by omega) (by omega)
      refine ⟨m', h', ?_, by omega, ?_, ?_⟩
      · show ref03_united_B11 F out left k2 (ref03_united_L11 F out left k2 N) m h (i : Int) = _
        unfold ref03_united_B11 ref03_united_K12
        rw [bifT (by simp; omega), hgb, bifF (by simpa using hlt), hck, e1]
      · intro y hy
        rcases List.mem_cons.1 hy with rfl | hy
        · omega
        · exact e3 y hy
      · rcases e4 with h | ⟨y, hy, e⟩
        · exact .inl h
        · exact .inr ⟨y, by simp [hy], e⟩
end
theorem outer_loop (F : Nat) : ∀ (n N : Nat) (out left σ : List api_Span), left.length ≤ n → n < N → n + 3 ≤ F → n ≤ 100000 → out.length + n ≤ 100000 → σ.Perm left → σ.Pairwise (fun x y => x.Lo ≤ y.Lo) → (∀ x ∈ left, x.Lo ≤ x.Hi) →
    ref03_united_L2 F N out left = some (out ++ mergeL σ) := by
  intro n
  induction n with
  | zero =>
    intro N out left σ hl hN hF hn ho hp hs hv
    obtain ⟨N, rfl⟩ : ∃ N', N = N' + 1 := ⟨N - 1, by omega⟩
    have : left = [] := List.length_eq_zero_iff.1 (by omega)
    subst this
    have : σ = [] := List.Perm.eq_nil hp
    subst this
    show ref03_united_B2 F (ref03_united_L2 F N) out [] = _
    simp [ref03_united_B2, ref03_united_K1, mergeL]
  | succ n ih =>
    intro N out left σ hl hN hF hn ho hp hs hv
    obtain ⟨N, rfl⟩ : ∃ N', N = N' + 1 := ⟨N - 1, by omega⟩
    show ref03_united_B2 F (ref03_united_L2 F N) out left = _
    unfold ref03_united_B2
    cases σ with
    | nil =>
      have : left = [] := List.Perm.eq_nil hp.symm
      subst this
      simp [ref03_united_K1, mergeL]
    | cons x1 xs =>
      have hlen := hp.length_eq
      simp at hlen
      rw [bifT (by simp; omega), getb default (by omega)]
      have hm0 : left.getD (0 : Int).toNat default ∈ left := by
        show left.getD 0 default ∈ left
        rw [List.getD_eq_getElem?_getD, List.getElem?_eq_getElem (by omega : 0 < left.length)]
        exact List.getElem_mem _
      generalize left.getD (0 : Int).toNat default = u at *
      obtain ⟨m, h, e1, e2, e3, e4⟩ := min_loop (out := out) (left := left) (k2 := ref03_united_L2 F N) F (by omega) left.length F 0 u.Lo u.Hi (by omega) (by omega)
      refine Eq.trans e1 ?_
      rw [List.drop_zero] at e3 e4
      -- the least one
      obtain ⟨s, hsl, hs1, hs2⟩ : ∃ s ∈ left, s.Lo = m ∧ s.Hi = h := by
        rcases e4 with ⟨rfl, rfl⟩ | ⟨y, hy, e⟩
        · exact ⟨u, hm0, rfl, rfl⟩
        · exact ⟨y, hy, e⟩
      rw [List.pairwise_cons] at hs
      have hx1 : x1 ∈ left := hp.mem_iff.1 (by simp)
      have hmx : m = x1.Lo := by
        have h1 := e3 x1 hx1
        have h2 : s ∈ x1 :: xs := hp.mem_iff.2 hsl
        rcases List.mem_cons.1 h2 with rfl | h2
        · exact hs1.symm
        · have := hs.1 s h2; omega
      have hvs := hv s hsl
      have hvx := hv x1 hx1
      unfold ref03_united_K3
      obtain ⟨H, g1, g2, g3, g4⟩ := grow_loop (out := out) (left := left) (k2 := ref03_united_L2 F N) F (by omega) (by omega) m left.length F h (List.length_filter_le _ _) (by omega)
      rw [g1]
      unfold ref03_united_K4
      have hf := filter_loop (out := out) (left := left) (k2 := ref03_united_L2 F N) (by omega) (by omega) m H left.length F 0 [] (by omega) (by omega) (by simp; omega)
      refine Eq.trans hf ?_
      rw [List.drop_zero, List.nil_append]
      obtain ⟨H2, q1, q2, q3, q4⟩ := mg_head xs x1 hs.2
      have hc2 : closed left H2 := by
        intro y hy hyl
        rcases List.mem_cons.1 (hp.mem_iff.2 hy) with rfl | hy
        · exact q2
        · exact q3 y hy hyl
      have hHH : H = H2 := by
        apply Int.le_antisymm
        · exact g4 H2 (by have := hc2 s hsl (by omega); omega) hc2
        · exact q4 H (g3 x1 hx1 (by omega)) (fun y hy => g3 y (hp.mem_iff.1 (by simp [hy])))
      subst hHH
      have hfx : (x1 :: xs).filter (fun x => decide (x.Lo > H)) = xs.filter (fun x => decide (x.Lo > H)) := List.filter_cons_of_neg (by simp; omega)
      have hpf : (xs.filter (fun x => decide (x.Lo > H))).Perm (left.filter (fun x => decide (x.Lo > H))) := by
        rw [← hfx]; exact hp.filter _
      have hfl : (left.filter (fun x => decide (x.Lo > H))).length ≤ n := by
        have h1 := hpf.length_eq
        have h2 := List.length_filter_le (fun x : api_Span => decide (x.Lo > H)) xs
        omega
      rw [ih N _ _ _ hfl (by omega) (by omega) (by omega) (by simp; omega) hpf (hs.2.filter _) (fun x hx => hv x (List.mem_filter.1 hx).1)]
      show _ = some (out ++ mg x1 xs)
      rw [q1, hmx]
      simp
theorem ref_united_eq (F : Nat) (l σ : List api_Span) (hl : l.length ≤ 300) (hF : 1000 ≤ F) (hp : σ.Perm l) (hs : σ.Pairwise (fun x y => x.Lo ≤ y.Lo)) (hv : ∀ x ∈ l, x.Lo ≤ x.Hi) : ref03_united F l = some (mergeL σ) := by
  unfold ref03_united
  rw [apdb (by simp; omega), List.nil_append, outer_loop F l.length F [] l σ (Nat.le_refl _) (by omega) (by omega) (by omega) (by simp; omega) hp hs hv, List.nil_append]
/-! ### The checks -/
def okSp (s : api_Span) : Bool := decide (s.Lo ≤ s.Hi ∧ -200000 ≤ s.Lo ∧ s.Hi ≤ 200000)
theorem checked_loop (l : List api_Span) (hl : l.length ≤ 100000) : ∀ (n N i : Nat), i + n = l.length → n < N → fold_checked_L2 l false N (i : Int) = some (if (l.drop i).all okSp then 0 else 3) := by
  intro n
  induction n with
  | zero =>
    intro N i hi hN
    obtain ⟨N, rfl⟩ : ∃ N', N = N' + 1 := ⟨N - 1, by omega⟩
    show fold_checked_B2 l false (fold_checked_L2 l false N) (i : Int) = _
    unfold fold_checked_B2
    rw [bifF (by simp; omega), List.drop_eq_nil_of_le (by omega)]
    rfl
  | succ n ih =>
    intro N i hi hN
    obtain ⟨N, rfl⟩ : ∃ N', N = N' + 1 := ⟨N - 1, by omega⟩
    show fold_checked_B2 l false (fold_checked_L2 l false N) (i : Int) = _
    unfold fold_checked_B2
    rw [drop_cons (i := i) (by omega) default]
    rw [bifT (by simp; omega), getb default (by omega), Int.toNat_natCast]
    generalize l.getD i default = x
    rw [List.all_cons]
    by_cases h : okSp x = true
    · have h' := h
      unfold okSp at h'
      simp only [decide_eq_true_eq] at h'
      rw [bifF (by simp [cond_eq_ite]; omega), gdF (g := (bif false then decide ((i : Int) > 0) else false) == true && true) rfl, sb, gdF (g := (bif false then decide ((i : Int) > 0) else false) == true && true) rfl, sb]
      refine Eq.trans (bifF rfl) ?_
      rw [ckb (by omega)]
      have := ih N (i + 1) (by omega) (by omega)
      rw [Int.natCast_add] at this
      refine Eq.trans this ?_
      rw [h, Bool.true_and]
    · have h' := h
      unfold okSp at h'
      simp only [decide_eq_true_eq] at h'
      rw [bifT (by simp [cond_eq_ite]; omega)]
      simp [h]
theorem spans_loop (l : List api_Span) (hl : l.length ≤ 100000) : ∀ (n N i : Nat), i + n = l.length → n < N → ref03_spans_L2 l false N (i : Int) = some (if (l.drop i).all okSp then 0 else 3) := by
  intro n
  induction n with
  | zero =>
    intro N i hi hN
    obtain ⟨N, rfl⟩ : ∃ N', N = N' + 1 := ⟨N - 1, by omega⟩
    show ref03_spans_B2 l false (ref03_spans_L2 l false N) (i : Int) = _
    unfold ref03_spans_B2
    rw [bifF (by simp; omega), List.drop_eq_nil_of_le (by omega)]
    rfl
  | succ n ih =>
    intro N i hi hN
    obtain ⟨N, rfl⟩ : ∃ N', N = N' + 1 := ⟨N - 1, by omega⟩
    show ref03_spans_B2 l false (ref03_spans_L2 l false N) (i : Int) = _
    unfold ref03_spans_B2
    rw [drop_cons (i := i) (by omega) default]
    rw [bifT (by simp; omega), getb default (by omega), Int.toNat_natCast, valid_in]
    generalize l.getD i default = x
    rw [List.all_cons]
    have hin : inB x (-200000) 200000 = okSp x := by unfold inB okSp; rw [Bool.eq_iff_iff]; simp only [decide_eq_true_eq]; omega
    rw [hin]
    by_cases h : okSp x = true
    · rw [h]
      refine Eq.trans (bifF rfl) ?_
      rw [gdF (g := (bif false then decide ((i : Int) > 0) else false) == true && true) rfl, sb, gdF (g := (bif false then decide ((i : Int) > 0) else false) == true && true) rfl, sb, gdF (g := (bif false then decide ((i : Int) > 0) else false) == true && true) rfl, sb]
      refine Eq.trans (bifF rfl) ?_
      rw [ckb (by omega)]
      have := ih N (i + 1) (by omega) (by omega)
      rw [Int.natCast_add] at this
      refine Eq.trans this ?_
      rw [Bool.true_and]
    · have h' : okSp x = false := by simpa using h
      rw [h']
      exact bifT rfl
theorem law_spans_loop (a : List api_Span) (ha : a.length ≤ 100000) : ∀ (n N i : Nat), i + n = a.length → n < N → law03_spans_L2 a a N (i : Int) = some true := by
  intro n
  induction n with
  | zero =>
    intro N i hi hN
    obtain ⟨N, rfl⟩ : ∃ N', N = N' + 1 := ⟨N - 1, by omega⟩
    show law03_spans_B2 a a (law03_spans_L2 a a N) (i : Int) = _
    unfold law03_spans_B2
    rw [bifF (by simp; omega)]
    rfl
  | succ n ih =>
    intro N i hi hN
    obtain ⟨N, rfl⟩ : ∃ N', N = N' + 1 := ⟨N - 1, by omega⟩
    show law03_spans_B2 a a (law03_spans_L2 a a N) (i : Int) = _
    unfold law03_spans_B2
    rw [bifT (by simp; omega), getb default (by omega), getb default (by omega), Int.toNat_natCast, bifF (by simp), ckb (by omega)]
    have := ih N (i + 1) (by omega) (by omega)
    rw [Int.natCast_add] at this
    exact this
theorem law_spans_ok (F : Nat) (a : List api_Span) (ha : a.length ≤ 100000) (hF : a.length < F) : law03_spans F a a = some true := by
  unfold law03_spans
  rw [bifF (by simp)]
  exact law_spans_loop a ha a.length F 0 (by omega) hF
theorem mg_len : ∀ (xs : List api_Span) (c : api_Span), (mg c xs).length ≤ xs.length + 1 := by
  intro xs
  induction xs with
  | nil => intro c; simp [mg]
  | cons x xs ih =>
    intro c
    unfold mg
    split
    · have := ih ⟨c.Lo, if x.Hi > c.Hi then x.Hi else c.Hi⟩; rw [List.length_cons]; omega
    · have := ih x; simp; omega
theorem mergeL_len (l : List api_Span) : (mergeL l).length ≤ l.length := by
  cases l with
  | nil => simp [mergeL]
  | cons x xs => exact mg_len xs x
theorem union_eq (F : Nat) (hF : 1000 ≤ F) (l : List api_Span) : ∃ a e, fold_Union F l = some (a, e) ∧ ref03_Union F l = some (a, e) ∧ a.length ≤ 256 := by
  unfold fold_Union ref03_Union fold_checked ref03_spans
  by_cases h1 : l.length > 256
  · have hc : decide (((l.length : Nat) : Int) > 256) = true := by simp; omega
    rw [hc, cond_true, cond_true, sb, sb]
    exact ⟨[], 9, rfl, rfl, by simp⟩
  · have hc : decide (((l.length : Nat) : Int) > 256) = false := by simp; omega
    have a1 : fold_checked_L2 l false F 0 = _ := checked_loop l (by omega) l.length F 0 (by omega) (by omega)
    have a2 : ref03_spans_L2 l false F 0 = _ := spans_loop l (by omega) l.length F 0 (by omega) (by omega)
    rw [List.drop_zero] at a1 a2
    rw [hc, cond_false, cond_false, a1, a2, sb, sb]
    cases hk : l.all okSp with
    | false => exact ⟨[], 3, rfl, rfl, by simp⟩
    | true =>
      have hv : ∀ x ∈ l, x.Lo ≤ x.Hi ∧ -200000 ≤ x.Lo ∧ x.Hi ≤ 200000 := fun x hx => by
        have := List.all_eq_true.1 hk x hx
        unfold okSp at this
        simpa using this
      obtain ⟨σ, e1, e2, e3⟩ := united_eq F l (by omega) (by omega) (fun s hs => by have := hv s hs; unfold spB; omega)
      have e4 := ref_united_eq F l σ (by omega) hF e2 e3 (fun x hx => (hv x hx).1)
      have hlen := mergeL_len σ
      have hpl := e2.length_eq
      refine ⟨mergeL σ, 0, ?_, ?_, by omega⟩
      · refine Eq.trans (bifF rfl) ?_
        rw [e1, sb]
      · refine Eq.trans (bifF rfl) ?_
        rw [e4, sb]
theorem FoldUnions_eq (F : Nat) (hF : 1000 ≤ F) (l : List api_Span) : law03_FoldUnions F l = some true := by
  unfold law03_FoldUnions
  obtain ⟨a, e, h1, h2, h3⟩ := union_eq F hF l
  generalize (bif (bif (decide (((l.length : Nat) : Int) > 60)) then (decide (((l.length : Nat) : Int) ≤ 256)) else false) then true else (decide (((l.length : Nat) : Int) > 260))) = c
  cases c with
  | true => rfl
  | false =>
    refine Eq.trans (bifF rfl) ?_
    rw [h1, sb, h2, sb, law_spans_ok F a (by omega) (by omega), sb]
    simp [law03_works]
end Go.Proofs.Ytbhjgebjojdohaa
