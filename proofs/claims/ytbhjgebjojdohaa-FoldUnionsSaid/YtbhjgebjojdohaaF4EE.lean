/- The engine, part 6: slices by what they hold. -/
import Derived.Test.YtbhjgebjojdohaaW3EA
import Derived.RangeFuncRecord
import Derived.RangeFuncLeaves
namespace Go.Eng
open Go Go.RowKit

/-- A slice whose n elements are l, each of sz cells. -/
def Arr {α : Type} (w : World) (sz : Nat) (f : α → List Value) (ad : Option Addr) (n cap : Nat) (l : List α) : Prop := l.length = n ∧ Sl w sz (.slice ad n cap) n (l.flatMap f)
def slAddr (ad : Option Addr) (i : Int) (sz : Nat) : Addr := (ad.getD default).add (i.toNat * sz)
/-- The same as a resource. -/
def arr {α : Type} (e sz : Nat) (f : α → List Value) (ad : Option Addr) (n cap : Nat) (l : List α) : Res where
  foot := fun k => (Value.slice ad n cap).ownBlock = some k
  holds := fun w => l.length = n ∧ w.ownsRow 0 e sz (.slice ad n cap) n (l.flatMap f)
  loc := fun w w' h hb => ⟨hb.1, (vec (.slice ad n cap) e sz n (l.flatMap f)).loc w w' h hb.2⟩
  lt := fun _ k hb hk => (hb.2.lt k hk).2
section
variable {P : Program} {w w' : World} {α : Type} {sz n cap : Nat} {f : α → List Value} {ad : Option Addr} {l : List α} {cs : List Cd}
theorem Arr.later (h : Arr w sz f ad n cap l) (hx : Ext w w') : Arr w' sz f ad n cap l := ⟨h.1, h.2.later hx⟩
theorem Arr.nil : Arr w sz f none 0 0 ([] : List α) := ⟨rfl, Sl.nil w sz⟩
theorem Arr.len (h : Arr w sz f ad n cap l) : l.length = n := h.1
theorem Arr.le (h : Arr w sz f ad n cap l) : n ≤ cap ∧ cap ≤ 9223372036854775807 := by
  obtain ⟨_, ad', cap', e, _, h3, h4, _⟩ := h
  cases e
  simp only [maxLen] at h4
  exact ⟨h3, by omega⟩
theorem Arr.cells (hf : ∀ x, (f x).length = sz) (h : Arr w sz f ad n cap l) {i : Int} (h0 : 0 ≤ i) (hi : i < n) (d : α) : ∃ a, ad = some a ∧ ∀ j u, (f (l.getD i.toNat d))[j]? = some u → w.cell? ((slAddr ad i sz).add j) = some u := by
  obtain ⟨hl, ad', cap', e, _, _, _, h5⟩ := h
  cases e
  obtain ⟨a, rfl, _, h8⟩ := h5 (by omega)
  have hlt : i.toNat < l.length := by omega
  have hg : l[i.toNat]? = some (l.getD i.toNat d) := by rw [List.getD_eq_getElem?_getD, List.getElem?_eq_getElem hlt]; rfl
  refine ⟨a, rfl, fun j u hu => ?_⟩
  have hj : j < sz := by have := (List.getElem?_eq_some_iff.1 hu).1; rw [hf] at this; exact this
  have := h8 (i.toNat * sz + j) u (by rw [flat_get hf l i.toNat j _ hg hj]; exact hu)
  show w.cell? ((a.add (i.toNat * sz)).add j) = some u
  rw [addr_add]; exact this
theorem obIdx {T : World → World → Prop} {D : World → Prop} {t : Nat} {i : Int} (h : Arr w sz f ad n cap l) (ht : sliceOf P t sz = true) (hb : condsOk cs = true → 0 ≤ i ∧ i < n) :
    Ob.ok P T D (.run cs (Instr.indexAt t (.slice ad n cap) (.int .i64 i)) (.pointer (some (slAddr ad i sz)))) := by
  intro hk w' _
  obtain ⟨h0, hi⟩ := hb hk
  obtain ⟨_, ad', cap', e, _, _, _, h5⟩ := h
  cases e
  obtain ⟨a, rfl, _, _⟩ := h5 (by omega)
  obtain ⟨e', inf, hu, hinf, hs⟩ := sliceOf_spec ht
  simp [Instr.indexAt, asIntOf, run_underlying hu, sizeOf, typeInfo, hinf, hs, h0, hi, slAddr]
end

section
variable {P : Program} {r : Option Nat} {ops : Array Oper} {Q : Exit → Act → World → Prop} {N : Nat} {ds : List Deferred} {M : List (Nat × Value)} {a : Act} {w w0 w' : World} {H : List Res} {α : Type} {e sz n cap : Nat} {f : α → List Value} {ad : Option Addr} {l : List α} {cs : List Cd}
theorem St.arr {i : Nat} (h : St w0 H w) (hi : H[i]? = some (arr e sz f ad n cap l)) : Arr w sz f ad n cap l := by
  have := h.holds _ (List.mem_of_getElem? hi)
  exact ⟨this.1, Sl.of_own this.2⟩
theorem St.nilarr (h : St w0 H w) (e sz : Nat) (f : α → List Value) : St w0 (Go.Eng.arr e sz f none 0 0 ([] : List α) :: H) w :=
  h.push (Ext.refl w) ⟨rfl, World.ownsRow_nil w 0 e sz⟩ (fun b hb => by simp [Go.Eng.arr, Value.ownBlock] at hb)
theorem St.blk_arr {b : Nat} {cs : Array Value} (h : St w0 (Go.Eng.blk b e cs :: H) w) (hf : ∀ x, (f x).length = sz) (hl : l.length = n) (hc : l.flatMap f = cs.toList) (hn : n ≤ maxLen) : St w0 (Go.Eng.arr e sz f (some ⟨b, 0, none⟩) n n l :: H) w := by
  refine h.conv ⟨hl, ?_⟩ (fun k hk => by simp [Go.Eng.arr, Value.ownBlock] at hk; exact hk.symm)
  rw [hc]
  refine vec_of_blk (h.holds _ (List.mem_cons_self ..)) ?_ hn
  have := flat_len hf l
  rw [hc, hl] at this
  simpa using this
end
end Go.Eng
namespace Go.Eng
open Go Go.RowKit
section
variable {P : Program} {w w' : World}
theorem Blk.later {b : Nat} {t : TypeId} {cs : Array Value} (h : Blk w b t cs) (hx : Ext w w') : Blk w' b t cs := hx.block h
/-- A slice that the callee has made. -/
structure Fresh {α : Type} (w w' : World) (e sz : Nat) (f : α → List Value) (ad : Option Addr) (n cap : Nat) (l : List α) : Prop where
  holds : (arr e sz f ad n cap l).holds w'
  foot : ∀ b, (arr e sz f ad n cap l).foot b → w.heap.size ≤ b
theorem Fresh.arr {α : Type} {e sz n cap : Nat} {f : α → List Value} {ad : Option Addr} {l : List α} (h : Fresh w w' e sz f ad n cap l) : Arr w' sz f ad n cap l := ⟨h.holds.1, Sl.of_own h.holds.2⟩
theorem Fresh.nil {α : Type} {e sz : Nat} {f : α → List Value} : Fresh w w' e sz f none 0 0 ([] : List α) := ⟨⟨rfl, World.ownsRow_nil w' 0 e sz⟩, fun b hb => by simp [Go.Eng.arr, Value.ownBlock] at hb⟩
theorem Fresh.of {α : Type} {e sz n cap i : Nat} {f : α → List Value} {ad : Option Addr} {l : List α} {H : List Res} (h : St w H w') (hi : H[i]? = some (Go.Eng.arr e sz f ad n cap l)) : Fresh w w' e sz f ad n cap l :=
  ⟨h.holds _ (List.mem_of_getElem? hi), h.low _ (List.mem_of_getElem? hi)⟩
end
end Go.Eng
/- The engine, part 7: a region in whatever order, by an invariant of what has been done so far; one chain of operations with effects among others that only read. -/
namespace Go.Eng
open Go Go.RowKit

def updV (σ : Nat → Value) (i : Nat) (v : Value) : Nat → Value := fun k => if k = i then v else σ k
section
variable {P : Program} {r : Option Nat} {ops : Array Oper} {Q : Exit → Act → World → Prop} {N : Nat}
end
end Go.Eng
/- The engine, part 8: a region in whatever order, with one chain of operations that make or write memory among others that only read. -/
namespace Go.Eng
open Go Go.RowKit

section
variable {P : Program} {r : Option Nat} {ops : Array Oper} {Q : Exit → Act → World → Prop} {N : Nat} {ds : List Deferred} {M : List (Nat × Value)} {ch : List Nat} {vals : List Value}
/-! ### Tokens: what each operation with an effect takes and leaves -/
/-- A resource: from the start, or made out of the value of operation prod; taken by operation cons. -/
structure Tok where
  prod : Option Nat
  cons : Option Nat
  res : Value → Res
def Tok.at (k : Tok) (σ : Nat → Value) : Res := match k.prod with | some p => k.res (σ p) | none => k.res undef
end
end Go.Eng
/- The engine, part 9: single operations with an effect, by what they take and leave. -/
namespace Go.Eng
open Go Go.RowKit

section
variable {P : Program} {r : Option Nat} {ops : Array Oper} {N : Nat} {ds : List Deferred} {M : List (Nat × Value)} {a : Act} {w w0 : World} {F H : List Res} {α : Type} {e sz n : Nat} {f : α → List Value} {l l' : List α} {o : Oper} {c : Nat}
end
end Go.Eng
namespace Go.Eng
open Go Go.RowKit
section
variable {w w0 : World} {F : List Res} {R S : Res} {α : Type} {e sz n cap : Nat} {f : α → List Value} {l : List α} {ad : Option Addr}
end
end Go.Eng
/- The engine, part 10: resources joined; slices of slices. -/
namespace Go.Eng
open Go Go.RowKit

/-- A slice as a value that a cell holds. -/
structure SlV where
  ad : Option Addr
  n : Nat
  cap : Nat
instance : Inhabited SlV := ⟨⟨none, 0, 0⟩⟩
def Res.both (R S : Res) : Res where
  foot := fun b => R.foot b ∨ S.foot b
  holds := fun w => R.holds w ∧ S.holds w
  loc := fun w w' h hb => ⟨R.loc w w' (fun b hk => h b (.inl hk)) hb.1, S.loc w w' (fun b hk => h b (.inr hk)) hb.2⟩
  lt := fun w b hb hk => hk.elim (R.lt w b hb.1) (S.lt w b hb.2)
def Res.none : Res where
  foot := fun _ => False
  holds := fun _ => True
  loc := fun _ _ _ h => h
  lt := fun _ _ _ h => h.elim
/-- Many resources as one. -/
def Res.all : List Res → Res
  | [] => Res.none
  | R :: l => R.both (Res.all l)
section
variable {w w0 : World} {R S : Res} {H : List Res}
theorem St.both (h : St w0 (R :: S :: H) w) : St w0 (R.both S :: H) w := by
  have hp := List.pairwise_cons.1 h.apart
  have hp2 := List.pairwise_cons.1 hp.2
  refine ⟨h.ext, fun T hT => ?_, fun T hT b hb => ?_, List.pairwise_cons.2 ⟨fun T hT b hb => ?_, hp2.2⟩⟩
  · rcases List.mem_cons.1 hT with rfl | hT
    · exact ⟨h.holds _ (by simp), h.holds _ (by simp)⟩
    · exact h.holds T (by simp [hT])
  · rcases List.mem_cons.1 hT with rfl | hT
    · rcases hb with hb | hb
      · exact h.low R (by simp) b hb
      · exact h.low S (by simp) b hb
    · exact h.low T (by simp [hT]) b hb
  · rcases hb with hb | hb
    · exact hp.1 T (by simp [hT]) b hb
    · exact hp2.1 T hT b hb
/-- A resource that the callee has made. -/
structure Made (w w' : World) (R : Res) : Prop where
  holds : R.holds w'
  foot : ∀ b, R.foot b → w.heap.size ≤ b
theorem Made.of {i : Nat} (h : St w H w0) (hi : H[i]? = some R) : Made w w0 R := ⟨h.holds _ (List.mem_of_getElem? hi), h.low _ (List.mem_of_getElem? hi)⟩
theorem St.res {i : Nat} (h : St w0 H w) (hi : H[i]? = some R) : R.holds w := h.holds _ (List.mem_of_getElem? hi)
/-- Some of the resources, in any order. -/
theorem St.pick (is : List Nat) (hn : is.Nodup) (h : St w0 H w) : St w0 (is.filterMap fun i => H[i]?) w := by
  have hm : ∀ R, R ∈ is.filterMap (fun i => H[i]?) → R ∈ H := fun R hR => by
    obtain ⟨i, _, hi⟩ := List.mem_filterMap.1 hR
    exact List.mem_of_getElem? hi
  refine ⟨h.ext, fun R hR => h.holds R (hm R hR), fun R hR => h.low R (hm R hR), ?_⟩
  rw [List.pairwise_filterMap]
  refine hn.imp ?_
  intro i j hij R hR S hS b h1 h2
  have hi := List.getElem?_eq_some_iff.1 hR
  have hj := List.getElem?_eq_some_iff.1 hS
  rcases Nat.lt_or_gt_of_ne hij with hlt | hgt
  · have := List.pairwise_iff_getElem.1 h.apart i j hi.1 hj.1 hlt b
    rw [hi.2, hj.2] at this; exact this h1 h2
  · have := List.pairwise_iff_getElem.1 h.apart j i hj.1 hi.1 hgt b
    rw [hi.2, hj.2] at this; exact this h2 h1
/-- All that a callee has made. -/
theorem St.madeL {w' : World} {H' : List Res} (h : St w0 H w) (hR : St w H' w') : St w0 (H' ++ H) w' := by
  have h' := h.later hR.ext
  refine ⟨h'.ext, fun T hT => ?_, fun T hT b hb => ?_, List.pairwise_append.2 ⟨hR.apart, h'.apart, fun U hU T hT b hb hb' => ?_⟩⟩
  · rcases List.mem_append.1 hT with hT | hT
    · exact hR.holds T hT
    · exact h'.holds T hT
  · rcases List.mem_append.1 hT with hT | hT
    · exact Nat.le_trans h.ext.size (hR.low T hT b hb)
    · exact h'.low T hT b hb
  · have := T.lt w b (h.holds T hT) hb'
    have := hR.low U hU b hb
    omega
end
end Go.Eng
/- The engine, part 11: ranging over functions. -/
namespace Go.Eng
open Go Go.RowKit

section
variable {P : Program} {w w0 : World} {H : List Res}
end
section
variable {P : Program} {ops : Array Oper} {Q : Exit → Act → World → Prop} {N : Nat} {ds : List Deferred} {M : List (Nat × Value)} {a : Act} {w w0 : World} {H : List Res}
end
end Go.Eng
