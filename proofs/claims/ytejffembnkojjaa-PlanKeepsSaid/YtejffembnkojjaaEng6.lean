/- The engine, part 6: slices by what they hold. -/
import Derived.Test.YtejffembnkojjaaEng5
namespace Go.Eng
open Go Go.RowKit

/-- A slice whose n elements are l, each of sz cells. -/
def Arr {α : Type} (w : World) (sz : Nat) (f : α → List Value) (ad : Option Addr) (n cap : Nat) (l : List α) : Prop := l.length = n ∧ Sl w sz (.slice ad n cap) n (l.flatMap f)
def slAddr (ad : Option Addr) (i : Int) (sz : Nat) : Addr := (ad.getD default).add (i.toNat * sz)
def slOff (ad : Option Addr) (m l sz : Nat) : Option Addr := if m = l then ad else ad.map (·.add (l * sz))
/-- The same as a resource. -/
def arr {α : Type} (e sz : Nat) (f : α → List Value) (ad : Option Addr) (n cap : Nat) (l : List α) : Res where
  foot := fun k => (Value.slice ad n cap).ownBlock = some k
  holds := fun w => l.length = n ∧ w.ownsRow 0 e sz (.slice ad n cap) n (l.flatMap f)
  loc := fun w w' h hb => ⟨hb.1, (vec (.slice ad n cap) e sz n (l.flatMap f)).loc w w' h hb.2⟩
  lt := fun _ k hb hk => (hb.2.lt k hk).2
section
variable {P : Program} {w w' : World} {α : Type} {sz n cap : Nat} {f : α → List Value} {ad : Option Addr} {l : List α} {cs : List Cd}
theorem Arr.later (h : Arr w sz f ad n cap l) (hx : Ext w w') : Arr w' sz f ad n cap l := ⟨h.1, h.2.later hx⟩
theorem Arr.nil : Arr w sz f none 0 0 ([] : List α) := ⟨rfl, Sl.nil w sz⟩
theorem Arr.len (h : Arr w sz f ad n cap l) : l.length = n := h.1
theorem Arr.le (h : Arr w sz f ad n cap l) : n ≤ cap ∧ cap ≤ 9223372036854775807 := by
  obtain ⟨_, ad', cap', e, _, h3, h4, _⟩ := h
  cases e
  simp only [maxLen] at h4
  exact ⟨h3, by omega⟩
theorem Arr.cells (hf : ∀ x, (f x).length = sz) (h : Arr w sz f ad n cap l) {i : Int} (h0 : 0 ≤ i) (hi : i < n) (d : α) : ∃ a, ad = some a ∧ ∀ j u, (f (l.getD i.toNat d))[j]? = some u → w.cell? ((slAddr ad i sz).add j) = some u := by
  obtain ⟨hl, ad', cap', e, _, _, _, h5⟩ := h
  cases e
  obtain ⟨a, rfl, _, h8⟩ := h5 (by omega)
  have hlt : i.toNat < l.length := by omega
  have hg : l[i.toNat]? = some (l.getD i.toNat d) := by rw [List.getD_eq_getElem?_getD, List.getElem?_eq_getElem hlt]; rfl
  refine ⟨a, rfl, fun j u hu => ?_⟩
  have hj : j < sz := by have := (List.getElem?_eq_some_iff.1 hu).1; rw [hf] at this; exact this
  have := h8 (i.toNat * sz + j) u (by rw [flat_get hf l i.toNat j _ hg hj]; exact hu)
  show w.cell? ((a.add (i.toNat * sz)).add j) = some u
  rw [addr_add]; exact this
theorem obIdx {T : World → World → Prop} {D : World → Prop} {t : Nat} {i : Int} (h : Arr w sz f ad n cap l) (ht : sliceOf P t sz = true) (hb : condsOk cs = true → 0 ≤ i ∧ i < n) :
    Ob.ok P T D (.run cs (Instr.indexAt t (.slice ad n cap) (.int .i64 i)) (.pointer (some (slAddr ad i sz)))) := by
  intro hk w' _
  obtain ⟨h0, hi⟩ := hb hk
  obtain ⟨_, ad', cap', e, _, _, _, h5⟩ := h
  cases e
  obtain ⟨a, rfl, _, _⟩ := h5 (by omega)
  obtain ⟨e', inf, hu, hinf, hs⟩ := sliceOf_spec ht
  simp [Instr.indexAt, asIntOf, run_underlying hu, sizeOf, typeInfo, hinf, hs, h0, hi, slAddr]
theorem obEl {T : World → World → Prop} {D : World → Prop} {t : Nat} {i : Int} (j : Nat) (d : α) (g : α → Value) (hf : ∀ x, (f x).length = sz) (h : ∀ w', D w' → Arr w' sz f ad n cap l) (ht : notAgg P t = true) (hj : ∀ x, (f x)[j]? = some (g x)) (hb : condsOk cs = true → 0 ≤ i ∧ i < n) :
    Ob.ok P T D (.run cs (Instr.loadAt t (.pointer (some ((slAddr ad i sz).add j)))) (g (l.getD i.toNat d))) := by
  intro hk w' e
  obtain ⟨_, _, hc⟩ := (h w' e).cells hf (hb hk).1 (hb hk).2 d
  exact load1_run ht (hc j _ (hj _))
theorem obElN {T : World → World → Prop} {D : World → Prop} {t m : Nat} {i : Int} (j : Nat) (d : α) (g : α → List Value) (hf : ∀ x, (f x).length = sz) (h : ∀ w', D w' → Arr w' sz f ad n cap l) (ht : aggSize P t = some m) (hg : ∀ x, (g x).length = m ∧ ((f x).drop j).take m = g x) (hb : condsOk cs = true → 0 ≤ i ∧ i < n) :
    Ob.ok P T D (.run cs (Instr.loadAt t (.pointer (some ((slAddr ad i sz).add j)))) (.agg (g (l.getD i.toNat d)).toArray)) := by
  intro hk w' e
  obtain ⟨_, _, hc⟩ := (h w' e).cells hf (hb hk).1 (hb hk).2 d
  refine loadN_run (by rw [(hg _).1]; exact ht) (fun q u hu => ?_)
  rw [addr_add]
  refine hc (j + q) u ?_
  rw [← (hg _).2, List.getElem?_take] at hu
  split at hu
  · rwa [List.getElem?_drop] at hu
  · cases hu
theorem Arr.of_blk {b : Nat} {e : TypeId} {cs : Array Value} (h : Blk w b e cs) (hf : ∀ x, (f x).length = sz) (hl : l.length = n) (hc : l.flatMap f = cs.toList) (hn : n ≤ maxLen) : Arr w sz f (some ⟨b, 0, none⟩) n n l := by
  refine ⟨hl, ?_⟩
  rw [hc]
  refine Sl.of_blk h ?_ hn
  have := flat_len hf l
  rw [hc, hl] at this
  simpa using this
theorem slice_run {t lo hi mx : Nat} {vlo vhi vmx : Option Value} (ht : sliceOf P t sz = true) (hb : ∀ w, (Instr.sliceBounds true n cap vlo vhi vmx).run P w = .ok (lo, hi, mx) w) (w : World) :
    (Instr.sliceAt t (.slice ad n cap) vlo vhi vmx).run P w = .ok (.slice (slOff ad mx lo sz) (hi - lo) (mx - lo)) w := by
  obtain ⟨e', inf, hu, hinf, hs⟩ := sliceOf_spec ht
  simp [Instr.sliceAt, Instr.slice, run_underlying hu, hb, sizeOf, typeInfo, hinf, hs, slOff]
theorem bounds_lh {lo hi : Nat} (h : lo ≤ hi ∧ hi ≤ cap) (w : World) : (Instr.sliceBounds true n cap (some (.int .i64 (lo : Int))) (some (.int .i64 (hi : Int))) none).run P w = .ok (lo, hi, cap) w := by
  simp [Instr.sliceBounds, Instr.sliceBound, asIntOf, h.1, h.2]
theorem bounds_l {lo : Nat} (h : lo ≤ n) (w : World) : (Instr.sliceBounds true n cap (some (.int .i64 (lo : Int))) none none).run P w = .ok (lo, n, cap) w := by
  simp [Instr.sliceBounds, Instr.sliceBound, asIntOf, h]
theorem bounds_h {hi : Nat} (h : hi ≤ cap) (w : World) : (Instr.sliceBounds true n cap none (some (.int .i64 (hi : Int))) none).run P w = .ok (0, hi, cap) w := by
  simp [Instr.sliceBounds, Instr.sliceBound, asIntOf, h]
theorem bounds_hm {hi mx : Nat} (h : hi ≤ mx ∧ mx ≤ cap) (w : World) : (Instr.sliceBounds true n cap none (some (.int .i64 (hi : Int))) (some (.int .i64 (mx : Int)))).run P w = .ok (0, hi, mx) w := by
  simp [Instr.sliceBounds, Instr.sliceBound, asIntOf, h.1, h.2]
theorem obSliceLH {T : World → World → Prop} {D : World → Prop} {t lo hi : Nat} (ht : sliceOf P t sz = true) (h : condsOk cs = true → lo ≤ hi ∧ hi ≤ cap) :
    Ob.ok P T D (.run cs (Instr.sliceAt t (.slice ad n cap) (some (.int .i64 (lo : Int))) (some (.int .i64 (hi : Int))) none) (.slice (slOff ad cap lo sz) (hi - lo) (cap - lo))) := fun hk w' _ => slice_run ht (bounds_lh (h hk)) w'
theorem obSliceL {T : World → World → Prop} {D : World → Prop} {t lo : Nat} (ht : sliceOf P t sz = true) (h : condsOk cs = true → lo ≤ n) :
    Ob.ok P T D (.run cs (Instr.sliceAt t (.slice ad n cap) (some (.int .i64 (lo : Int))) none none) (.slice (slOff ad cap lo sz) (n - lo) (cap - lo))) := fun hk w' _ => slice_run ht (bounds_l (h hk)) w'
theorem obSliceH {T : World → World → Prop} {D : World → Prop} {t hi : Nat} (ht : sliceOf P t sz = true) (h : condsOk cs = true → hi ≤ cap) :
    Ob.ok P T D (.run cs (Instr.sliceAt t (.slice ad n cap) none (some (.int .i64 (hi : Int))) none) (.slice (slOff ad cap 0 sz) hi cap)) := fun hk w' _ => slice_run ht (bounds_h (h hk)) w'
theorem obSliceHM {T : World → World → Prop} {D : World → Prop} {t hi mx : Nat} (ht : sliceOf P t sz = true) (h : condsOk cs = true → hi ≤ mx ∧ mx ≤ cap) :
    Ob.ok P T D (.run cs (Instr.sliceAt t (.slice ad n cap) none (some (.int .i64 (hi : Int))) (some (.int .i64 (mx : Int)))) (.slice (slOff ad mx 0 sz) hi mx)) := fun hk w' _ => slice_run ht (bounds_hm (h hk)) w'
/-- A part of a slice. -/
theorem Arr.cut (hf : ∀ x, (f x).length = sz) (h : Arr w sz f ad n cap l) {lo hi mx : Nat} (h1 : lo ≤ hi) (h2 : hi ≤ n) (h3 : hi ≤ mx) (h4 : mx ≤ cap) : Arr w sz f (slOff ad mx lo sz) (hi - lo) (mx - lo) ((l.drop lo).take (hi - lo)) := by
  have hl := h.1
  obtain ⟨_, ad', cap', e, _, h5, h6, h7⟩ := h
  cases e
  have hlen : ((l.drop lo).take (hi - lo)).length = hi - lo := by rw [List.length_take, List.length_drop]; omega
  refine ⟨hlen, _, _, rfl, by rw [flat_len hf, hlen], by omega, by omega, fun hpos => ?_⟩
  obtain ⟨a, rfl, h8, h9⟩ := h7 (by omega)
  have hne : mx ≠ lo := by omega
  refine ⟨a.add (lo * sz), by simp [slOff, hne], by rw [addr_block]; exact h8, fun j u hu => ?_⟩
  rw [addr_add]
  refine h9 _ u ?_
  by_cases hsz : sz = 0
  · have : ((l.drop lo).take (hi - lo)).flatMap f = [] := List.eq_nil_of_length_eq_zero (by rw [flat_len hf, hsz]; simp)
    rw [this] at hu; simp at hu
  · have hjlt : j < (hi - lo) * sz := by
      have := (List.getElem?_eq_some_iff.1 hu).1
      rw [flat_len hf, hlen] at this; exact this
    have hq : j = (j / sz) * sz + j % sz := by rw [Nat.mul_comm]; exact (Nat.div_add_mod j sz).symm
    have hr : j % sz < sz := Nat.mod_lt _ (by omega)
    have hqlt : j / sz < hi - lo := by rw [Nat.div_lt_iff_lt_mul (by omega)]; exact hjlt
    have hx1 : ((l.drop lo).take (hi - lo))[j / sz]? = some (((l.drop lo).take (hi - lo))[j / sz]'(by omega)) := List.getElem?_eq_getElem (by omega)
    have hx2 : l[lo + j / sz]? = ((l.drop lo).take (hi - lo))[j / sz]? := by rw [List.getElem?_take, if_pos hqlt, List.getElem?_drop]
    rw [hq, flat_get hf _ _ _ _ hx1 hr] at hu
    rw [hx1] at hx2
    have := flat_get hf l (lo + j / sz) (j % sz) _ hx2 hr
    rw [show lo * sz + j = (lo + j / sz) * sz + j % sz by rw [Nat.add_mul]; omega, this]
    exact hu
end

section
variable {P : Program} {r : Option Nat} {ops : Array Oper} {Q : Exit → Act → World → Prop} {N : Nat} {ds : List Deferred} {M : List (Nat × Value)} {a : Act} {w w0 w' : World} {H : List Res} {α : Type} {e sz n cap : Nat} {f : α → List Value} {ad : Option Addr} {l : List α} {cs : List Cd}
theorem St.arr {i : Nat} (h : St w0 H w) (hi : H[i]? = some (arr e sz f ad n cap l)) : Arr w sz f ad n cap l := by
  have := h.holds _ (List.mem_of_getElem? hi)
  exact ⟨this.1, Sl.of_own this.2⟩
theorem St.nilarr (h : St w0 H w) (e sz : Nat) (f : α → List Value) : St w0 (Go.Eng.arr e sz f none 0 0 ([] : List α) :: H) w :=
  h.push (Ext.refl w) ⟨rfl, World.ownsRow_nil w 0 e sz⟩ (fun b hb => by simp [Go.Eng.arr, Value.ownBlock] at hb)
theorem St.blk_arr {b : Nat} {cs : Array Value} (h : St w0 (Go.Eng.blk b e cs :: H) w) (hf : ∀ x, (f x).length = sz) (hl : l.length = n) (hc : l.flatMap f = cs.toList) (hn : n ≤ maxLen) : St w0 (Go.Eng.arr e sz f (some ⟨b, 0, none⟩) n n l :: H) w := by
  refine h.conv ⟨hl, ?_⟩ (fun k hk => by simp [Go.Eng.arr, Value.ownBlock] at hk; exact hk.symm)
  rw [hc]
  refine vec_of_blk (h.holds _ (List.mem_cons_self ..)) ?_ hn
  have := flat_len hf l
  rw [hc, hl] at this
  simpa using this
theorem appendA {k : Nat} (k' : Nat) (M' : Option Addr → Nat → List (Nat × Value)) (i : Nat) {t ty bytes m scap : Nat} {sad : Option Addr} {l' : List α} (hF : Fr N ds M a) (hS : St w0 H w) (hi : H[i]? = some (arr e sz f ad n cap l)) (hdst : dstOk ops N = true)
    (hs : EffAt ops k M (Builtin.append_ #[t, t] ty #[.slice ad n cap, .slice sad m scap])) (hty : sliceTy P t e sz bytes = true) (hsrc : Arr w sz f sad m scap l') (h1 : ∀ x, (f x).all Value.oneCell' = true) (hb : (n + m) * bytes ≤ 140737488355328) (h63 : n + m ≤ maxLen)
    (hM : ∀ ad2 cap2, NextM ops k M (.slice ad2 (n + m) cap2) (M' ad2 cap2)) (hk : k + 1 = k')
    (next : ∀ ad2 cap2 w' a', w.grownBy w' (Value.slice ad n cap).ownBlock → Fr N ds (M' ad2 cap2) a' → St w0 (H.set i (arr e sz f ad2 (n + m) cap2 (l ++ l'))) w' → WI P r ops Q k' a' w') : WI P r ops Q k a w := by
  have hold := hS.holds _ (List.mem_of_getElem? hi)
  obtain ⟨ad2, cap2, w', hr, hown, hg, hblk⟩ := run_app (ty := ty) hty hold.2 hsrc.2 (fun u hu => by
    obtain ⟨x, hx, hux⟩ := List.mem_flatMap.1 hu
    exact List.all_eq_true.1 (h1 x) u hux) hb h63
  refine eff_ hF hdst hs hr (hM ad2 cap2) hk ?_
  intro a' hF'
  rw [← List.flatMap_append] at hown
  exact next ad2 cap2 w' a' hg hF' (hS.upd hi hg.os hg.tape hg.output hg.size (fun j hj hnj => hg.block j hj (fun e => hnj e.symm)) ⟨by rw [List.length_append, hold.1, hsrc.1], hown⟩ hblk)
theorem makeA {k : Nat} (k' : Nat) (M' : Nat → List (Nat × Value)) {t bytes : Nat} (x0 : α) {z : Value} (hF : Fr N ds M a) (hS : St w0 H w) (hdst : dstOk ops N = true) (hs : EffAt ops k M (Instr.makeSlice t (.int .i64 (n : Int)) (.int .i64 (n : Int))))
    (hty : sliceTy P t e 1 bytes = true) (hz : (P.info? e).bind (·.zero) = some z) (hzc : z.cells = #[z]) (hx0 : f x0 = [z]) (hb : bytes * n ≤ 281474976710656) (h63 : n ≤ maxLen) (hM : ∀ b, NextM ops k M (.slice (some ⟨b, 0, none⟩) n n) (M' b)) (hk : k + 1 = k')
    (next : ∀ b w' a', w.heap.size ≤ b → Ext w w' → Fr N ds (M' b) a' → St w0 (arr e 1 f (some ⟨b, 0, none⟩) n n (List.replicate n x0) :: H) w' → WI P r ops Q k' a' w') : WI P r ops Q k a w := by
  refine makeSlice_ k' M' hF hS hdst hs hty hz hzc hb h63 hM hk ?_
  intro b w' a' h1 h2 h3 h4
  refine next b w' a' h1 h2 h3 (h4.conv ⟨by simp, ?_⟩ (fun k hk => hk))
  have hv := h4.holds _ (List.mem_cons_self ..)
  have : (List.replicate n x0).flatMap f = List.replicate n z := by
    clear hv h4 h3 h2 h1 next hM h63 hb hs
    induction n with
    | zero => rfl
    | succ n ih => rw [List.replicate_succ, List.flatMap_cons, hx0, List.replicate_succ]; simp; exact ih
  rw [this]; exact hv
theorem flat_set (hf : ∀ x, (f x).length = 1) {x : α} {u : Value} (hx : f x = [u]) : ∀ (l : List α) (j : Nat), (l.flatMap f).set j u = (l.set j x).flatMap f := by
  intro l
  induction l with
  | nil => intro j; simp
  | cons y l ih =>
    intro j
    obtain ⟨v, hv⟩ : ∃ v, f y = [v] := by
      have := hf y
      cases hy : f y with
      | nil => rw [hy] at this; simp at this
      | cons v vs => rw [hy] at this; simp at this; subst this; exact ⟨v, rfl⟩
    cases j with
    | zero => simp [hv, hx]
    | succ j => simp [hv, ih j]
theorem vsetA {k : Nat} (k' : Nat) (M' : List (Nat × Value)) (i : Nat) {t : Nat} {j : Int} (x : α) (u : Value) (hF : Fr N ds M a) (hS : St w0 H w) (hi : H[i]? = some (arr e 1 f ad n cap l)) (hdst : dstOk ops N = true)
    (hs : StoreAt ops k M t (.pointer (some (slAddr ad j 1))) u) (hf : ∀ x, (f x).length = 1) (hx : f x = [u]) (hj : 0 ≤ j ∧ j < n) (hsz : pureSem P (sizeOf t) = some 1) (hone : u.oneCell' = true) (huc : u.cells = #[u]) (hM : NextM ops k M undef M') (hk : k + 1 = k')
    (next : ∀ w' a', w.grownBy w' (Value.slice ad n cap).ownBlock → w'.heap.size = w.heap.size → Fr N ds M' a' → St w0 (H.set i (arr e 1 f ad n cap (l.set j.toNat x))) w' → WI P r ops Q k' a' w') : WI P r ops Q k a w := by
  have hold := hS.holds _ (List.mem_of_getElem? hi)
  rcases hold.2.2 with ⟨h', rfl⟩ | ⟨g, cap', cur, h', _⟩
  · omega
  · simp only [Value.slice.injEq, true_and] at h'
    obtain ⟨rfl, rfl⟩ := h'
    have hadd : slAddr (some ⟨g, 0, none⟩) j 1 = ⟨g, j.toNat, none⟩ := by
      unfold slAddr Addr.add
      split
      · rename_i h; simp at h ⊢; omega
      · simp
    rw [hadd] at hs
    have hS' : St w0 (H.set i (vec (.slice (some ⟨g, 0, none⟩) n cap) e 1 n (l.flatMap f))) w := hS.upd hi rfl rfl rfl (Nat.le_refl _) (fun _ _ _ => rfl) hold.2 (fun k hk => .inl hk)
    have hil : i < H.length := (List.getElem?_eq_some_iff.1 hi).1
    refine vset_ k' M' i j.toNat u hF hS' (List.getElem?_set_self hil) hdst hs (by omega) hsz hone huc hM hk ?_
    intro w' a' hg hz hF' hS2
    rw [List.set_set] at hS2
    have hv := hS2.vec (List.getElem?_set_self hil)
    refine next w' a' hg hz hF' ?_
    rw [flat_set hf hx] at hv
    have := hS2.upd (R' := arr e 1 f (some ⟨g, 0, none⟩) n cap (l.set j.toNat x)) (List.getElem?_set_self hil) rfl rfl rfl (Nat.le_refl _) (fun _ _ _ => rfl) ⟨by simpa using hold.1, hv⟩ (fun k hk => .inl hk)
    rwa [List.set_set] at this
end
end Go.Eng
namespace Go.Eng
open Go Go.RowKit
section
variable {P : Program} {w w' : World}
theorem loadVar1 {t : Nat} {p : Addr} {u : Value} (ht : notAgg P t = true) (h : w.cell? p = some u) : (loadVar t p).run P w = .ok u w := by
  have := load1_run ht h
  simpa [Instr.loadAt, Instr.sureAddr] using this
theorem loadVarN {t : Nat} {p : Addr} {cs : List Value} (ht : aggSize P t = some cs.length) (h : ∀ j u, cs[j]? = some u → w.cell? (p.add j) = some u) : (loadVar t p).run P w = .ok (.agg cs.toArray) w := by
  have := loadN_run ht h
  simpa [Instr.loadAt, Instr.sureAddr] using this
theorem Blk.cell1 {b j : Nat} {t : TypeId} {cs : Array Value} {v : Value} (h : Blk w b t cs) (hj : cs[j]? = some v) : w.cell? ⟨b, j, none⟩ = some v := by
  rw [cell_of_row w b j cs t (0, 0) h]; exact hj
theorem Blk.later {b : Nat} {t : TypeId} {cs : Array Value} (h : Blk w b t cs) (hx : Ext w w') : Blk w' b t cs := hx.block h
/-- A slice that the callee has made. -/
structure Fresh {α : Type} (w w' : World) (e sz : Nat) (f : α → List Value) (ad : Option Addr) (n cap : Nat) (l : List α) : Prop where
  holds : (arr e sz f ad n cap l).holds w'
  foot : ∀ b, (arr e sz f ad n cap l).foot b → w.heap.size ≤ b
theorem Fresh.arr {α : Type} {e sz n cap : Nat} {f : α → List Value} {ad : Option Addr} {l : List α} (h : Fresh w w' e sz f ad n cap l) : Arr w' sz f ad n cap l := ⟨h.holds.1, Sl.of_own h.holds.2⟩
theorem Fresh.nil {α : Type} {e sz : Nat} {f : α → List Value} : Fresh w w' e sz f none 0 0 ([] : List α) := ⟨⟨rfl, World.ownsRow_nil w' 0 e sz⟩, fun b hb => by simp [Go.Eng.arr, Value.ownBlock] at hb⟩
theorem Fresh.of {α : Type} {e sz n cap i : Nat} {f : α → List Value} {ad : Option Addr} {l : List α} {H : List Res} (h : St w H w') (hi : H[i]? = some (Go.Eng.arr e sz f ad n cap l)) : Fresh w w' e sz f ad n cap l :=
  ⟨h.holds _ (List.mem_of_getElem? hi), h.low _ (List.mem_of_getElem? hi)⟩
end
end Go.Eng
