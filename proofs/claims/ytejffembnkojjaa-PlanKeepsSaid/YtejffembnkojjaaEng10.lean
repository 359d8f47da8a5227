/- The engine, part 10: resources joined; slices of slices. -/
import Derived.Test.YtejffembnkojjaaEng9
namespace Go.Eng
open Go Go.RowKit

/-- A slice as a value that a cell holds. -/
structure SlV where
  ad : Option Addr
  n : Nat
  cap : Nat
instance : Inhabited SlV := ⟨⟨none, 0, 0⟩⟩
def fS (s : SlV) : List Value := [.slice s.ad s.n s.cap]
theorem fS_len (s : SlV) : (fS s).length = 1 := rfl
def Res.both (R S : Res) : Res where
  foot := fun b => R.foot b ∨ S.foot b
  holds := fun w => R.holds w ∧ S.holds w
  loc := fun w w' h hb => ⟨R.loc w w' (fun b hk => h b (.inl hk)) hb.1, S.loc w w' (fun b hk => h b (.inr hk)) hb.2⟩
  lt := fun w b hb hk => hk.elim (R.lt w b hb.1) (S.lt w b hb.2)
def Res.none : Res where
  foot := fun _ => False
  holds := fun _ => True
  loc := fun _ _ _ h => h
  lt := fun _ _ _ h => h.elim
/-- Many resources as one. -/
def Res.all : List Res → Res
  | [] => Res.none
  | R :: l => R.both (Res.all l)
theorem Res.all_holds {w : World} : ∀ {l : List Res}, (Res.all l).holds w ↔ ∀ R ∈ l, R.holds w := by
  intro l
  induction l with
  | nil => simp [Res.all, Res.none]
  | cons R l ih => simp only [Res.all, Res.both, ih, List.mem_cons, forall_eq_or_imp]
theorem Res.all_foot {b : Nat} : ∀ {l : List Res}, (Res.all l).foot b ↔ ∃ R ∈ l, R.foot b := by
  intro l
  induction l with
  | nil => simp [Res.all, Res.none]
  | cons R l ih => simp only [Res.all, Res.both, ih, List.mem_cons, exists_eq_or_imp]
/-- The slices of ints that a slice of slices holds. -/
def rowR (p : SlV × List Int) : Res := arr 3 1 fI p.1.ad p.1.n p.1.cap p.2
def rowsR (rows : List SlV) (vals : List (List Int)) : Res := Res.all ((rows.zip vals).map rowR)
section
variable {w w0 : World} {R S : Res} {H : List Res}
theorem St.both (h : St w0 (R :: S :: H) w) : St w0 (R.both S :: H) w := by
  have hp := List.pairwise_cons.1 h.apart
  have hp2 := List.pairwise_cons.1 hp.2
  refine ⟨h.ext, fun T hT => ?_, fun T hT b hb => ?_, List.pairwise_cons.2 ⟨fun T hT b hb => ?_, hp2.2⟩⟩
  · rcases List.mem_cons.1 hT with rfl | hT
    · exact ⟨h.holds _ (by simp), h.holds _ (by simp)⟩
    · exact h.holds T (by simp [hT])
  · rcases List.mem_cons.1 hT with rfl | hT
    · rcases hb with hb | hb
      · exact h.low R (by simp) b hb
      · exact h.low S (by simp) b hb
    · exact h.low T (by simp [hT]) b hb
  · rcases hb with hb | hb
    · exact hp.1 T (by simp [hT]) b hb
    · exact hp2.1 T hT b hb
/-- A row more. -/
theorem St.rowIn {rows : List SlV} {vals : List (List Int)} {ad : Option Addr} {n cap : Nat} {l : List Int} (hl : rows.length = vals.length) (h : St w0 (Go.Eng.arr 3 1 fI ad n cap l :: rowsR rows vals :: H) w) : St w0 (rowsR (rows ++ [⟨ad, n, cap⟩]) (vals ++ [l]) :: H) w := by
  refine h.both.conv ?_ ?_
  · have := h.both.holds _ (List.mem_cons_self ..)
    unfold rowsR at this ⊢
    rw [List.zip_append hl, List.map_append, Res.all_holds]
    intro R hR
    rcases List.mem_append.1 hR with hR | hR
    · exact Res.all_holds.1 this.2 R hR
    · simp at hR; subst hR; exact this.1
  · intro b hb
    unfold rowsR at hb ⊢
    rw [List.zip_append hl, List.map_append, Res.all_foot] at hb
    obtain ⟨R, hR, hb⟩ := hb
    rcases List.mem_append.1 hR with hR | hR
    · exact .inr (Res.all_foot.2 ⟨R, hR, hb⟩)
    · simp at hR; subst hR; exact .inl hb
theorem St.noRows (h : St w0 H w) : St w0 (rowsR [] [] :: H) w := h.push (Ext.refl w) trivial (fun _ hb => hb.elim)
theorem rowsR_get {rows : List SlV} {vals : List (List Int)} (h : (rowsR rows vals).holds w) (hl : rows.length = vals.length) {i : Nat} (hi : i < rows.length) : Arr w 1 fI (rows.getD i default).ad (rows.getD i default).n (rows.getD i default).cap (vals.getD i []) := by
  have := Res.all_holds.1 h (rowR (rows.getD i default, vals.getD i [])) (by
    refine List.mem_map_of_mem (List.mem_iff_getElem?.2 ⟨i, ?_⟩)
    rw [List.getElem?_zip_eq_some]
    simp [List.getD_eq_getElem?_getD, List.getElem?_eq_getElem hi, List.getElem?_eq_getElem (hl ▸ hi)])
  exact ⟨this.1, Sl.of_own this.2⟩
/-- A resource that the callee has made. -/
structure Made (w w' : World) (R : Res) : Prop where
  holds : R.holds w'
  foot : ∀ b, R.foot b → w.heap.size ≤ b
theorem Made.of {i : Nat} (h : St w H w0) (hi : H[i]? = some R) : Made w w0 R := ⟨h.holds _ (List.mem_of_getElem? hi), h.low _ (List.mem_of_getElem? hi)⟩
theorem Fresh.made {w' : World} {α : Type} {e sz n cap : Nat} {f : α → List Value} {ad : Option Addr} {l : List α} (h : Fresh w w' e sz f ad n cap l) : Made w w' (Go.Eng.arr e sz f ad n cap l) := ⟨h.holds, h.foot⟩
theorem St.made {w' : World} (h : St w0 H w) (hx : Ext w w') (hR : Made w w' R) : St w0 (R :: H) w' := h.push hx hR.holds hR.foot
theorem St.res {i : Nat} (h : St w0 H w) (hi : H[i]? = some R) : R.holds w := h.holds _ (List.mem_of_getElem? hi)
/-- Two at once, that are apart. -/
theorem St.made2 {w' : World} (h : St w0 H w) (hx : Ext w w') (hR : St w [R, S] w') : St w0 (R :: S :: H) w' := by
  have h' := h.later hx
  have hp := List.pairwise_cons.1 hR.apart
  have old : ∀ T ∈ H, ∀ U ∈ [R, S], ∀ b, U.foot b → ¬ T.foot b := fun T hT U hU b hb hb' => by
    have := T.lt w b (h.holds T hT) hb'
    have := hR.low U hU b hb
    omega
  refine ⟨h'.ext, fun T hT => ?_, fun T hT b hb => ?_, List.pairwise_cons.2 ⟨fun T hT b hb => ?_, List.pairwise_cons.2 ⟨fun T hT b hb => old T hT S (by simp) b hb, h'.apart⟩⟩⟩
  · rcases List.mem_cons.1 hT with rfl | hT
    · exact hR.holds _ (by simp)
    · rcases List.mem_cons.1 hT with rfl | hT
      · exact hR.holds _ (by simp)
      · exact h'.holds T hT
  · rcases List.mem_cons.1 hT with rfl | hT
    · exact Nat.le_trans h.ext.size (hR.low _ (by simp) b hb)
    · rcases List.mem_cons.1 hT with rfl | hT
      · exact Nat.le_trans h.ext.size (hR.low _ (by simp) b hb)
      · exact h'.low T hT b hb
  · rcases List.mem_cons.1 hT with rfl | hT
    · exact hp.1 T (by simp) b hb
    · exact old T hT R (by simp) b hb
/-- Some of the resources, in any order. -/
theorem St.pick (is : List Nat) (hn : is.Nodup) (h : St w0 H w) : St w0 (is.filterMap fun i => H[i]?) w := by
  have hm : ∀ R, R ∈ is.filterMap (fun i => H[i]?) → R ∈ H := fun R hR => by
    obtain ⟨i, _, hi⟩ := List.mem_filterMap.1 hR
    exact List.mem_of_getElem? hi
  refine ⟨h.ext, fun R hR => h.holds R (hm R hR), fun R hR => h.low R (hm R hR), ?_⟩
  rw [List.pairwise_filterMap]
  refine hn.imp ?_
  intro i j hij R hR S hS b h1 h2
  have hi := List.getElem?_eq_some_iff.1 hR
  have hj := List.getElem?_eq_some_iff.1 hS
  rcases Nat.lt_or_gt_of_ne hij with hlt | hgt
  · have := List.pairwise_iff_getElem.1 h.apart i j hi.1 hj.1 hlt b
    rw [hi.2, hj.2] at this; exact this h1 h2
  · have := List.pairwise_iff_getElem.1 h.apart j i hj.1 hi.1 hgt b
    rw [hi.2, hj.2] at this; exact this h2 h1
theorem Arr.clip {α : Type} {sz k cap : Nat} {f : α → List Value} {ad : Option Addr} {l : List α} (h : Arr w sz f ad k cap l) (hf : ∀ x, (f x).length = sz) : Arr w sz f (slOff ad k 0 sz) k k l := by
  have := h.cut hf (lo := 0) (hi := k) (mx := k) (Nat.zero_le _) (Nat.le_refl _) (Nat.le_refl _) h.le.1
  simpa [← h.len] using this
/-- All that a callee has made. -/
theorem St.madeL {w' : World} {H' : List Res} (h : St w0 H w) (hR : St w H' w') : St w0 (H' ++ H) w' := by
  have h' := h.later hR.ext
  refine ⟨h'.ext, fun T hT => ?_, fun T hT b hb => ?_, List.pairwise_append.2 ⟨hR.apart, h'.apart, fun U hU T hT b hb hb' => ?_⟩⟩
  · rcases List.mem_append.1 hT with hT | hT
    · exact hR.holds T hT
    · exact h'.holds T hT
  · rcases List.mem_append.1 hT with hT | hT
    · exact Nat.le_trans h.ext.size (hR.low T hT b hb)
    · exact h'.low T hT b hb
  · have := T.lt w b (h.holds T hT) hb'
    have := hR.low U hU b hb
    omega
end
end Go.Eng
