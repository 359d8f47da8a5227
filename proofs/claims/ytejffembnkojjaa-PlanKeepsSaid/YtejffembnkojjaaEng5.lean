/- The engine, part 5: arithmetic without wrap, slices of things, append, make, literals of slices, stores into elements. -/
import Derived.Test.YtejffembnkojjaaEng4
namespace Go.Eng
open Go Go.RowKit

/-! ### Numbers -/
theorem wrap64 {x : Int} (h : -9223372036854775808 ≤ x ∧ x ≤ 9223372036854775807) : IntKind.i64.wrap x = x := by
  have hb : IntKind.i64.bits = 64 := rfl
  have hs : IntKind.i64.signed = true := rfl
  simp only [IntKind.wrap, hb, hs]
  by_cases h0 : 0 ≤ x
  · have e : x % 2 ^ 64 = x := Int.emod_eq_of_lt h0 (by omega)
    rw [e]
    rw [if_neg]
    simp; omega
  · have e : x % 2 ^ 64 = x + 2 ^ 64 := by
      rw [← Int.add_emod_right]
      exact Int.emod_eq_of_lt (by omega) (by omega)
    rw [e]
    rw [if_pos]
    · omega
    · simp; omega
section
variable {P : Program} {T : World → World → Prop} {D : World → Prop} {w : World} {cs : List Cd} {t : TypeId} {x y : Int}
theorem obAdd (h : -9223372036854775808 ≤ x + y ∧ x + y ≤ 9223372036854775807) : Ob.ok P T D (.run cs (binOp .add t (.int .i64 x) (.int .i64 y)) (.int .i64 (x + y))) :=
  fun _ w' _ => by simp [binOp, Op.intArith, wrap64 h]
theorem obSub (h : -9223372036854775808 ≤ x - y ∧ x - y ≤ 9223372036854775807) : Ob.ok P T D (.run cs (binOp .sub t (.int .i64 x) (.int .i64 y)) (.int .i64 (x - y))) :=
  fun _ w' _ => by simp [binOp, Op.intArith, wrap64 h]
theorem obMul (h : -9223372036854775808 ≤ x * y ∧ x * y ≤ 9223372036854775807) : Ob.ok P T D (.run cs (binOp .mul t (.int .i64 x) (.int .i64 y)) (.int .i64 (x * y))) :=
  fun _ w' _ => by simp [binOp, Op.intArith, wrap64 h]
theorem obQuo (h : 0 ≤ x ∧ 0 < y ∧ x ≤ 9223372036854775807) : Ob.ok P T D (.run cs (binOp .quo t (.int .i64 x) (.int .i64 y)) (.int .i64 (x / y))) :=
  fun _ w' _ => by
    have hy : ¬ y = 0 := by omega
    have e : x.tdiv y = x / y := Int.tdiv_eq_ediv_of_nonneg h.1
    have h1 : 0 ≤ x / y := Int.ediv_nonneg h.1 (by omega)
    have h2 : x / y ≤ x := Int.ediv_le_self y h.1
    simp [binOp, Op.intDiv, hy, e, wrap64 (x := x / y) (by omega)]
theorem obRem (h : 0 ≤ x ∧ 0 < y) : Ob.ok P T D (.run cs (binOp .rem t (.int .i64 x) (.int .i64 y)) (.int .i64 (x % y))) :=
  fun _ w' _ => by
    have hy : ¬ y = 0 := by omega
    have e : x.tmod y = x % y := Int.tmod_eq_emod_of_nonneg h.1
    simp [binOp, Op.intDiv, hy, e]
theorem obRemT (h : y ≠ 0) : Ob.ok P T D (.run cs (binOp .rem t (.int .i64 x) (.int .i64 y)) (.int .i64 (x.tmod y))) :=
  fun _ w' _ => by simp [binOp, Op.intDiv, h]
theorem obQuoT (h : y ≠ 0) : Ob.ok P T D (.run cs (binOp .quo t (.int .i64 x) (.int .i64 y)) (.int .i64 (IntKind.i64.wrap (x.tdiv y)))) :=
  fun _ w' _ => by simp [binOp, Op.intDiv, h]
theorem obQuoS (h : 0 < y ∧ -4000000000000000000 ≤ x ∧ x ≤ 4000000000000000000) : Ob.ok P T D (.run cs (binOp .quo t (.int .i64 x) (.int .i64 y)) (.int .i64 (x.tdiv y))) :=
  fun _ w' _ => by
    have hy : ¬ y = 0 := by omega
    have hb : -4000000000000000000 ≤ x.tdiv y ∧ x.tdiv y ≤ 4000000000000000000 := by
      by_cases h0 : 0 ≤ x
      · rw [Int.tdiv_eq_ediv_of_nonneg h0]
        have h1 : 0 ≤ x / y := Int.ediv_nonneg h0 (by omega)
        have h2 : x / y ≤ x := Int.ediv_le_self y h0
        omega
      · have e : x.tdiv y = -((-x).tdiv y) := by rw [Int.neg_tdiv, Int.neg_neg]
        rw [e, Int.tdiv_eq_ediv_of_nonneg (by omega)]
        have h1 : 0 ≤ (-x) / y := Int.ediv_nonneg (by omega) (by omega)
        have h2 : (-x) / y ≤ (-x) := Int.ediv_le_self y (by omega)
        omega
    simp [binOp, Op.intDiv, hy, wrap64 (x := x.tdiv y) (by omega)]
/-- The same where only the guard lets the operation be done. -/
theorem obC {s : Sem Value} {v : Value} (h : condsOk cs = true → Ob.ok P T D (.run cs s v)) : Ob.ok P T D (.run cs s v) := fun hk => h hk hk
theorem obW {op : BinOp} {k : IntKind} {v : Value} (h : pureSem P (binOp op t (.int k x) (.int k y)) = some v) : Ob.ok P T D (.run cs (binOp op t (.int k x) (.int k y)) v) := fun _ w' _ => pureSem_run _ _ h w'
theorem obPureSem {s : Sem Value} {v : Value} (h : pureSem P s = some v) : Ob.ok P T D (.run cs s v) := fun _ w' _ => pureSem_run _ _ h w'
theorem obConv {src dst : TypeId} {k : IntKind} (hs : (P.underlying src).isSome = true) (hd : P.underlying dst = some (.int .i64)) (h : -9223372036854775808 ≤ x ∧ x ≤ 9223372036854775807) :
    Ob.ok P T D (.run cs (convert src dst (.int k x)) (.int .i64 x)) := fun _ w' _ => by
  cases hu : P.underlying src with
  | none => rw [hu] at hs; simp at hs
  | some d =>
    have e1 := run_underlying hu w'
    have e2 := run_underlying hd w'
    unfold convert
    rw [Sem.run_bind, e1, Result.andThen_ok, Sem.run_bind, e2, Result.andThen_ok]
    cases d <;> simp [Conv.intToInt, wrap64 h]
end

/-! ### Slices of things -/
theorem flat_get {α : Type} {f : α → List Value} {sz : Nat} (hf : ∀ x, (f x).length = sz) : ∀ (l : List α) (i j : Nat) (x : α), l[i]? = some x → j < sz → (l.flatMap f)[i * sz + j]? = (f x)[j]? := by
  intro l
  induction l with
  | nil => intro i j x h _; simp at h
  | cons y l ih =>
    intro i j x h hj
    rw [List.flatMap_cons]
    cases i with
    | zero =>
      simp at h
      subst h
      rw [Nat.zero_mul, Nat.zero_add, List.getElem?_append_left (by rw [hf]; exact hj)]
    | succ i =>
      have hle : (f y).length ≤ (i + 1) * sz + j := by rw [hf, Nat.add_mul]; omega
      rw [List.getElem?_append_right hle, hf]
      have : (i + 1) * sz + j - sz = i * sz + j := by rw [Nat.add_mul]; omega
      rw [this]
      exact ih i j x (by simpa using h) hj
theorem flat_len {α : Type} {f : α → List Value} {sz : Nat} (hf : ∀ x, (f x).length = sz) (l : List α) : (l.flatMap f).length = l.length * sz := by
  induction l with
  | nil => simp
  | cons y l ih => rw [List.flatMap_cons, List.length_append, hf, ih, List.length_cons, Nat.add_mul]; omega
/-- The cell of a number. -/
def fI (x : Int) : List Value := [.int .i64 x]
theorem fI_len (x : Int) : (fI x).length = 1 := rfl

/-! ### Literals of slices -/
def buildCells (P : Program) (t len : Nat) (parts : Array (Nat × Value)) : Option (TypeId × Array Value) :=
  match P.underlying t with
  | some (.slice e) =>
    match P.info? e with
    | some i =>
      match i.zero with
      | some z => bif Nat.ble (len * i.size) 16777216 then (Instr.fill (fun k => some (k * i.size, i.size)) ((Array.range (len * i.size)).map (z.cells[· % z.cells.size]!)) parts.toList).map fun cs => (e, cs) else none
      | none => none
    | none => none
  | _ => none
section
variable {P : Program} {r : Option Nat} {ops : Array Oper} {Q : Exit → Act → World → Prop} {N : Nat} {ds : List Deferred} {M : List (Nat × Value)} {a : Act} {w w0 : World} {H : List Res}
theorem buildSlice_run {t len : Nat} {parts : Array (Nat × Value)} {e : TypeId} {cs : Array Value} (h : buildCells P t len parts = some (e, cs)) :
    (Instr.buildSlice t len parts).run P w = .ok (.slice (some ⟨w.heap.size, 0, none⟩) len len) { w with heap := w.heap.push (.cells cs e) } := by
  unfold buildCells at h
  cases hu : P.underlying t with
  | none => rw [hu] at h; simp at h
  | some d =>
    rw [hu] at h
    cases d <;> simp only at h <;> try (simp at h; done)
    rename_i e'
    cases hi : P.info? e' with
    | none => rw [hi] at h; simp at h
    | some i =>
      rw [hi] at h
      simp only at h
      cases hz : i.zero with
      | none => rw [hz] at h; simp at h
      | some z =>
        rw [hz] at h
        simp only at h
        cases hb : Nat.ble (len * i.size) 16777216 with
        | false => rw [hb] at h; simp at h
        | true =>
          rw [hb] at h
          simp only [cond_true, Option.map_eq_some_iff] at h
          obtain ⟨cs', hfill, he⟩ := h
          cases he
          have hle := Nat.le_of_ble_eq_true hb
          have hng : ¬ (len * i.size > 2 ^ 24) := by
            have : (2 : Nat) ^ 24 = 16777216 := by decide
            omega
          unfold Instr.buildSlice
          rw [Sem.run_bind, run_underlying hu w, Result.andThen_ok]
          by_cases h0 : len * i.size = 0
          · have hr0 : Array.range 0 = #[] := rfl
            rw [h0, hr0] at hfill
            simp only [Array.map_empty] at hfill
            simp [sizeOf, typeInfo, hi, h0, newRow, hr0, hfill]
          · simp [sizeOf, typeInfo, zeroValue, hi, hz, hng, h0, newRow, hfill]
theorem buildSlice_ {k : Nat} (k' : Nat) (M' : Nat → List (Nat × Value)) {t len : Nat} (parts : Array (Nat × Value)) (e : TypeId) (cs : Array Value) (hF : Fr N ds M a) (hS : St w0 H w) (hdst : dstOk ops N = true) (hs : EffAt ops k M (Instr.buildSlice t len parts))
    (hb : buildCells P t len parts = some (e, cs)) (hM : ∀ b, NextM ops k M (.slice (some ⟨b, 0, none⟩) len len) (M' b)) (hk : k + 1 = k')
    (next : ∀ b w' a', w.heap.size ≤ b → Ext w w' → Fr N ds (M' b) a' → St w0 (blk b e cs :: H) w' → WI P r ops Q k' a' w') : WI P r ops Q k a w := by
  refine eff_ hF hdst hs (buildSlice_run hb) (hM _) hk ?_
  intro a' hF'
  exact next _ _ a' (Nat.le_refl _) (ext_alloc w _) hF' (hS.push (ext_alloc w _) (blk_new w e cs) (fun b hb => by rw [show b = w.heap.size from hb]; exact Nat.le_refl _))
theorem Sl.of_blk {b n sz : Nat} {e : TypeId} {cs : Array Value} (h : Blk w b e cs) (hs : cs.size = n * sz) (hn : n ≤ maxLen) : Sl w sz (.slice (some ⟨b, 0, none⟩) n n) n cs.toList :=
  ⟨_, n, rfl, by simpa using hs, Nat.le_refl _, hn, fun _ => ⟨⟨b, 0, none⟩, rfl, (Array.getElem?_eq_some_iff.1 h).1, fun j u hu => by
    have e' : (⟨b, 0, none⟩ : Addr).add j = ⟨b, j, none⟩ := by unfold Addr.add; split <;> simp_all
    rw [e', cell_of_row w b j cs e (0, 0) h]; simpa using hu⟩⟩
theorem vec_of_blk {b n sz : Nat} {e : TypeId} {cs : Array Value} (h : Blk w b e cs) (hs : cs.size = n * sz) (hn : n ≤ maxLen) : w.ownsRow 0 e sz (.slice (some ⟨b, 0, none⟩) n n) n cs.toList :=
  ⟨by simpa using hs, .inr ⟨b, n, cs, rfl, Nat.zero_le _, h, Nat.le_refl _, hn, hs, List.take_of_length_le (by rw [Array.length_toList, hs]; exact Nat.le_refl _)⟩⟩
/-- The first resource seen another way. -/
theorem St.conv {R R' : Res} (h : St w0 (R :: H) w) (hR : R'.holds w) (hf : ∀ b, R'.foot b → R.foot b) : St w0 (R' :: H) w :=
  ⟨h.ext, fun S hS => by
    rcases List.mem_cons.1 hS with rfl | hS
    · exact hR
    · exact h.holds S (List.mem_cons_of_mem _ hS), fun S hS b hb => by
    rcases List.mem_cons.1 hS with rfl | hS
    · exact h.low R (List.mem_cons_self ..) b (hf b hb)
    · exact h.low S (List.mem_cons_of_mem _ hS) b hb, List.pairwise_cons.2 ⟨fun S hS b hb => (List.pairwise_cons.1 h.apart).1 S hS b (hf b hb), (List.pairwise_cons.1 h.apart).2⟩⟩
theorem St.blk_vec {b n sz : Nat} {e : TypeId} {cs : Array Value} (h : St w0 (Go.Eng.blk b e cs :: H) w) (hs : cs.size = n * sz) (hn : n ≤ maxLen) : St w0 (Go.Eng.vec (.slice (some ⟨b, 0, none⟩) n n) e sz n cs.toList :: H) w :=
  h.conv (vec_of_blk (h.holds _ (List.mem_cons_self ..)) hs hn) (fun k hk => by simp [Go.Eng.vec, Value.ownBlock] at hk; exact hk.symm)
/-- A nil slice owned from the start. -/
theorem St.nilvec (h : St w0 H w) (e : TypeId) (sz : Nat) : St w0 (Go.Eng.vec (.slice none 0 0) e sz 0 [] :: H) w :=
  h.push (Ext.refl w) (World.ownsRow_nil w 0 e sz) (fun b hb => by simp [Go.Eng.vec, Value.ownBlock] at hb)

/-! ### append -/
def sliceTy (P : Program) (t e size bytes : Nat) : Bool :=
  match P.underlying t with
  | some (.slice e') => Nat.beq e e' && (match P.info? e with
    | some i => Nat.beq i.size size && Nat.beq i.bytes bytes && Nat.blt 0 size && (match i.zero with | some z => Nat.beq z.cells.size size | none => false)
    | none => false)
  | _ => false
theorem sliceTy_spec {t e size bytes : Nat} (h : sliceTy P t e size bytes = true) : ∃ i z, P.underlying t = some (.slice e) ∧ P.info? e = some i ∧ i.zero = some z ∧ i.size = size ∧ i.bytes = bytes ∧ z.cells.size = size ∧ 0 < size := by
  unfold sliceTy at h
  split at h
  · rename_i e' hu
    rw [Bool.and_eq_true, Nat.beq_eq] at h
    obtain ⟨rfl, h⟩ := h
    cases hi : P.info? e with
    | none => rw [hi] at h; simp at h
    | some i =>
      rw [hi] at h
      simp only [Bool.and_eq_true, Nat.beq_eq, Nat.blt_eq] at h
      obtain ⟨⟨⟨h1, h2⟩, h3⟩, h4⟩ := h
      cases hz : i.zero with
      | none => rw [hz] at h4; simp at h4
      | some z => rw [hz] at h4; exact ⟨i, z, hu, hi ▸ rfl, hz, h1, h2, by simpa using h4, h3⟩
  · simp at h
theorem run_app {t ty e size bytes : Nat} (hty : sliceTy P t e size bytes = true) {v src : Value} {n m : Nat} {xs news : List Value} (hown : w.ownsRow 0 e size v n xs) (hsrc : Sl w size src m news) (h1 : ∀ u ∈ news, u.oneCell' = true)
    (hb : (n + m) * bytes ≤ 140737488355328) (h63 : n + m ≤ maxLen) :
    ∃ ad cap w', (Builtin.append_ #[t, t] ty #[v, src]).run P w = .ok (.slice ad (n + m) cap) w' ∧ w'.ownsRow 0 e size (.slice ad (n + m) cap) (n + m) (xs ++ news) ∧ w.grownBy w' v.ownBlock ∧
      (∀ k, (Value.slice ad (n + m) cap).ownBlock = some k → v.ownBlock = some k ∨ w.heap.size ≤ k) := by
  obtain ⟨i, z, ht, hi, hz, rfl, rfl, hzs, hsz⟩ := sliceTy_spec hty
  obtain ⟨sad, scap, rfl, hl, hsc, _, hcell⟩ := hsrc
  have hsmall : n + m ≤ 9223372036854775807 := by simp only [maxLen] at h63; omega
  by_cases hm : m = 0
  · subst hm
    have hn : news = [] := List.eq_nil_of_length_eq_zero (by simpa using hl)
    subst hn
    have hfc : (Builtin.firstCells i.size 0 (.slice sad 0 scap)).run P w = .ok #[] w := by cases sad <;> simp [Builtin.firstCells, loadCells, loadCellsFrom]
    rcases hown.2 with ⟨rfl, rfl⟩ | ⟨g, cap, cur, rfl, hbg, hg, hnc, hcm, hcs, htake⟩
    · refine ⟨none, 0, w, ?_, by simpa using hown, ⟨rfl, rfl, rfl, Nat.le_refl _, fun _ _ _ => rfl⟩, fun k hk => .inl hk⟩
      simp [Builtin.append_, run_underlying ht, sizeOf, typeInfo, hi, Builtin.lenOf, hfc]
    · refine ⟨some ⟨g, 0, none⟩, cap, w, ?_, by simpa using hown, ⟨rfl, rfl, rfl, Nat.le_refl _, fun _ _ _ => rfl⟩, fun k hk => .inl hk⟩
      simp [Builtin.append_, run_underlying ht, sizeOf, typeInfo, hi, Builtin.lenOf, hnc, hfc, storeCells]
  · obtain ⟨sa, rfl, _, hnews⟩ := hcell (by omega)
    have hlen : (xs ++ news).length = (n + m) * i.size := by rw [List.length_append, hown.1, hl, Nat.add_mul]
    have grown : ∀ (old : Nat), old < n + m →
        (w.drew.alloc (.cells (xs.toArray ++ news.toArray ++ Builtin.zeroCells z.cells (grownCap w (n + m) old e - (n + m))) e)).ownsRow 0 e i.size
          (.slice (some ⟨w.heap.size, 0, none⟩) (n + m) (grownCap w (n + m) old e)) (n + m) (xs ++ news) ∧
        ∀ row, w.grownBy (w.drew.alloc (.cells (xs.toArray ++ news.toArray ++ Builtin.zeroCells z.cells (grownCap w (n + m) old e - (n + m))) e)) row := by
      intro old ho
      have hge := grownCap_ge w (n + m) old e
      have hcm : grownCap w (n + m) old e ≤ maxLen := grownCap_le_maxLen w (n + m) old e h63
      refine ⟨⟨hlen, .inr ⟨w.heap.size, _, _, rfl, Nat.zero_le _, heap_alloc_new w.drew _, hge, hcm, ?_, ?_⟩⟩, fun row => ⟨rfl, rfl, rfl, by simp, fun k hk _ => heap_alloc_old w.drew _ k hk⟩⟩
      · simp only [Array.size_append, List.size_toArray, size_zeroCells, hzs, hown.1, hl, ← Nat.add_mul]
        congr 1
        omega
      · simp only [Array.toList_append, List.append_assoc]
        rw [← List.append_assoc, ← hlen]
        exact List.take_left
    rcases hown.2 with ⟨rfl, rfl⟩ | ⟨g, cap, cur, rfl, hbg, hg, hnc, hcm, hcs, htake⟩
    · have hx : xs = [] := List.eq_nil_of_length_eq_zero (by simpa using hown.1)
      subst hx
      have hr := run_append_nil (P := P) w t ty e i z ht hi hz sa m scap news hl hnews (by omega) (by omega) (by simp only [Nat.zero_add] at hb; omega)
      have hgr := grown 0 (by omega)
      simp only [Nat.zero_add, List.nil_append, Array.empty_append] at hgr ⊢
      exact ⟨_, _, _, hr, hgr.1, hgr.2 _, fun k hk => .inr (by simp [Value.ownBlock] at hk; omega)⟩
    · by_cases hroom : n + m ≤ cap
      · have hfit : n * i.size + news.length ≤ cur.size := by rw [hl, hcs, ← Nat.add_mul]; exact Nat.mul_le_mul_right _ hroom
        have hr := run_append_room (P := P) (ty := ty) w t e i ht hi g n cap cur hg sa m scap news hl hnews h1 hroom hfit
        refine ⟨_, _, _, hr, ⟨hlen, .inr ⟨g, cap, _, rfl, hbg, setRow_heap w g cur _ e _ hg, hroom, hcm, ?_, ?_⟩⟩, ⟨rfl, rfl, rfl, by simp, fun k _ hk => setRow_other w g k _ (fun e => hk (by simp [Value.ownBlock, e]))⟩, fun k hk => .inl hk⟩
        · simp only [List.size_toArray, List.length_append, List.length_take, List.length_drop, Array.length_toList]
          omega
        · rw [htake, ← hlen]
          exact List.take_left
      · have holds : ∀ j u, xs[j]? = some u → w.cell? ((⟨g, 0, none⟩ : Addr).add j) = some u := hown.cells (g := g) rfl
        have hr := run_append_grow (P := P) w t ty e i z ht hi hz ⟨g, 0, none⟩ n cap xs hown.1 holds sa m scap news hl hnews (by omega) (by omega) (growslice_fits (by omega) hb)
        have hgr := grown cap (by omega)
        exact ⟨_, _, _, hr, hgr.1, hgr.2 _, fun k hk => .inr (by simp [Value.ownBlock] at hk; omega)⟩
/-- append to a slice of the call's own. -/
theorem append_ {k : Nat} (k' : Nat) (M' : Option Addr → Nat → List (Nat × Value)) (i : Nat) {t ty e size bytes n m : Nat} {v src : Value} {xs news : List Value} (hF : Fr N ds M a) (hS : St w0 H w) (hi : H[i]? = some (vec v e size n xs)) (hdst : dstOk ops N = true)
    (hs : EffAt ops k M (Builtin.append_ #[t, t] ty #[v, src])) (hty : sliceTy P t e size bytes = true) (hsrc : Sl w size src m news) (h1 : ∀ u ∈ news, u.oneCell' = true) (hb : (n + m) * bytes ≤ 140737488355328) (h63 : n + m ≤ maxLen)
    (hM : ∀ ad cap, NextM ops k M (.slice ad (n + m) cap) (M' ad cap)) (hk : k + 1 = k')
    (next : ∀ ad cap w' a', w.grownBy w' v.ownBlock → Fr N ds (M' ad cap) a' → St w0 (H.set i (vec (.slice ad (n + m) cap) e size (n + m) (xs ++ news))) w' → WI P r ops Q k' a' w') : WI P r ops Q k a w := by
  obtain ⟨ad, cap, w', hr, hown, hg, hblk⟩ := run_app (ty := ty) hty (hS.vec hi) hsrc h1 hb h63
  refine eff_ hF hdst hs hr (hM ad cap) hk ?_
  intro a' hF'
  refine next ad cap w' a' hg hF' (hS.upd hi hg.os hg.tape hg.output hg.size (fun j hj hnj => hg.block j hj (fun e => hnj e.symm)) hown hblk)

/-! ### make, elements of a slice of the call's own -/
theorem makeSlice_ {k : Nat} (k' : Nat) (M' : Nat → List (Nat × Value)) {t e bytes n : Nat} {z : Value} (hF : Fr N ds M a) (hS : St w0 H w) (hdst : dstOk ops N = true) (hs : EffAt ops k M (Instr.makeSlice t (.int .i64 (n : Int)) (.int .i64 (n : Int))))
    (hty : sliceTy P t e 1 bytes = true) (hz : (P.info? e).bind (·.zero) = some z) (hzc : z.cells = #[z]) (hb : bytes * n ≤ 281474976710656) (h63 : n ≤ maxLen) (hM : ∀ b, NextM ops k M (.slice (some ⟨b, 0, none⟩) n n) (M' b)) (hk : k + 1 = k')
    (next : ∀ b w' a', w.heap.size ≤ b → Ext w w' → Fr N ds (M' b) a' → St w0 (vec (.slice (some ⟨b, 0, none⟩) n n) e 1 n (List.replicate n z) :: H) w' → WI P r ops Q k' a' w') : WI P r ops Q k a w := by
  obtain ⟨i, z', ht, hi, hz', h1, rfl, _, _⟩ := sliceTy_spec hty
  have hzz : z' = z := by rw [hi] at hz; simp [hz'] at hz; exact hz
  subst hzz
  obtain ⟨w', hr, hown, hg⟩ := run_make_full (P := P) w 0 t e i z' 1 ht hi hz' h1 .i64 .i64 n hb h63 (Nat.zero_le _)
  have hx : Ext w w' := ⟨hg.os, hg.tape, hg.output, hg.size, fun j hj => hg.block j hj (by simp)⟩
  refine eff_ hF hdst hs hr (hM _) hk ?_
  intro a' hF'
  rw [hzc, Nat.mul_one, toList_madeCells_one] at hown
  exact next _ w' a' (Nat.le_refl _) hx hF' (hS.push hx hown (fun b hb => by simp [Go.Eng.vec, Value.ownBlock] at hb; omega))
theorem vec_at {t e n cap : Nat} {ad : Option Addr} {xs : List Value} {i : Int} (h : w.ownsRow 0 e 1 (.slice ad n cap) n xs) (ht : sliceOf P t 1 = true) (h0 : 0 ≤ i) (hi : i < n) :
    ∃ g, ad = some ⟨g, 0, none⟩ ∧ (∀ w', (Instr.indexAt t (.slice ad n cap) (.int .i64 i)).run P w' = .ok (.pointer (some ⟨g, i.toNat, none⟩)) w') ∧ ∀ u, xs[i.toNat]? = some u → w.cell? ⟨g, i.toNat, none⟩ = some u := by
  rcases h.2 with ⟨h', rfl⟩ | ⟨g, cap', cur, h', _, hg, hnc, _, hcs, htake⟩
  · omega
  · simp only [Value.slice.injEq, true_and] at h'
    obtain ⟨rfl, rfl⟩ := h'
    obtain ⟨e', inf, hu, hinf, hs⟩ := sliceOf_spec ht
    have hadd : (⟨g, 0, none⟩ : Addr).add (i.toNat * 1) = ⟨g, i.toNat, none⟩ := by
      rw [Nat.mul_one]; unfold Addr.add; split
      · rename_i h; rw [h]
      · simp
    refine ⟨g, rfl, fun w' => ?_, fun u hu' => ?_⟩
    · simp only [Nat.mul_one] at hadd
      simp [Instr.indexAt, asIntOf, run_underlying hu, sizeOf, typeInfo, hinf, hs, h0, hi, hadd]
    · rw [h.cellAt i.toNat (by omega)]; exact hu'
/-- A store into an element of one cell. -/
theorem vset_ {k : Nat} (k' : Nat) (M' : List (Nat × Value)) (i j : Nat) {t e g n cap : Nat} {xs : List Value} (u : Value) (hF : Fr N ds M a) (hS : St w0 H w) (hi : H[i]? = some (vec (.slice (some ⟨g, 0, none⟩) n cap) e 1 n xs)) (hdst : dstOk ops N = true)
    (hs : StoreAt ops k M t (.pointer (some ⟨g, j, none⟩)) u) (hj : j < n) (hsz : pureSem P (sizeOf t) = some 1) (hone : u.oneCell' = true) (huc : u.cells = #[u]) (hM : NextM ops k M undef M') (hk : k + 1 = k')
    (next : ∀ w' a', w.grownBy w' (some g) → w'.heap.size = w.heap.size → Fr N ds M' a' → St w0 (H.set i (vec (.slice (some ⟨g, 0, none⟩) n cap) e 1 n (xs.set j u))) w' → WI P r ops Q k' a' w') : WI P r ops Q k a w := by
  have hv := hS.vec hi
  obtain ⟨hst, hg⟩ := hv.stored j u
  have hsz' := pureSem_run _ _ hsz w
  have hxl : xs.length = n := by simpa using hv.1
  have hcell := hv.cellAt j (by omega)
  have hfro := hv.frozenAt j
  have hrun : (storeVar t ⟨g, j, none⟩ u).run P w = .ok () (w.setCell ⟨g, j, none⟩ u) := by
    have hadd : (⟨g, j, none⟩ : Addr).add 0 = ⟨g, j, none⟩ := rfl
    have hx : xs[j]? = some (xs[j]'(by omega)) := List.getElem?_eq_getElem (by omega)
    simp only [storeVar, huc, Sem.run_bind, hsz', Result.andThen_ok]
    simp [storeCells, hadd, run_store P w _ u _ hone, hcell, hx, hfro]
  refine store_raw hF hdst hs hrun hM hk ?_
  intro a' hF'
  refine next _ a' hg (by simp [World.setCell]) hF' (hS.upd hi rfl rfl rfl (by simp [World.setCell]) (fun l hl hnl => hg.block l hl (fun e => hnl ?_)) hst (fun l hl => .inl hl))
  simp [Go.Eng.vec, Value.ownBlock]; cases e; rfl
end
end Go.Eng
