/- The engine, part 13: operations with effects, whatever comes behind them. -/
import Derived.Test.YtejffembnkojjaaEngD1
namespace Go.Eng
open Go Go.RowKit

/-- Operation k, and then K. -/
def SK (P : Program) (r : Option Nat) (ops : Array Oper) (k : Nat) (K : Act → World → Prop) (a : Act) (w : World) : Prop :=
  ∃ o, ops[k]? = some o ∧ OpG P r ops o a w (fun v w' => K (a.put o.dst v) w')
section
variable {P : Program} {r : Option Nat} {ops : Array Oper} {Q : Exit → Act → World → Prop} {K : Act → World → Prop} {N : Nat} {ds : List Deferred} {M M' : List (Nat × Value)} {a : Act} {w w0 w' : World} {H : List Res} {k : Nat}
theorem SK.wi (h : SK P r ops k (fun a w => WI P r ops Q (k + 1) a w) a w) : WI P r ops Q k a w := by
  obtain ⟨o, ho, h⟩ := h
  exact WI.cons ho h (fun _ _ h => h)
theorem rawK {o : Oper} {v : Value} (hF : Fr N ds M a) (hdst : dstOk ops N = true) (ho : plainAt ops k M = some o) (hr : (execOp (rhoE (ofM M)) o).run P w = .ok (.value v) w')
    (hM : NextM ops k M v M') (next : ∀ a', Fr N ds M' a' → K a' w') : SK P r ops k K a w := by
  obtain ⟨h1, h2, h3⟩ := plainAt_spec (r := r) ho hF
  refine ⟨o, h1, ?_⟩
  unfold OpG OpR
  rw [if_pos h2, h3, hr]
  exact next _ (nextM_spec h1 hdst hF hM)
theorem skipK {o : Oper} (hF : Fr N ds M a) (hdst : dstOk ops N = true) (ho : plainAt ops k M = some o) (hr : (execOp (rhoE (ofM M)) o).run P w = .ok .skip w')
    (hM : NextM ops k M undef M') (next : ∀ a', Fr N ds M' a' → K a' w') : SK P r ops k K a w := by
  obtain ⟨h1, h2, h3⟩ := plainAt_spec (r := r) ho hF
  refine ⟨o, h1, ?_⟩
  unfold OpG OpR
  rw [if_pos h2, h3, hr]
  exact next _ (nextM_spec h1 hdst hF hM)
theorem effK {s : Sem Value} {v : Value} (hF : Fr N ds M a) (hdst : dstOk ops N = true) (hs : EffAt ops k M s) (hr : s.run P w = .ok v w')
    (hM : NextM ops k M v M') (next : ∀ a', Fr N ds M' a' → K a' w') : SK P r ops k K a w := by
  have hs := hs.eq
  cases ho : plainAt ops k M with
  | none => rw [ho] at hs; simp at hs
  | some o =>
    rw [ho] at hs
    exact rawK hF hdst ho (effSem_run hs hr).2 hM next
theorem boxK (M' : Nat → List (Nat × Value)) {t : TypeId} (v : Value) (cs : Array Value) (hF : Fr N ds M a) (hS : St w0 H w) (hdst : dstOk ops N = true) (hs : EffAt ops k M (Instr.box t v)) (hcs : v.cells = cs)
    (hM : ∀ b, NextM ops k M (.pointer (some ⟨b, 0, none⟩)) (M' b))
    (next : ∀ b w' a', Fr N ds (M' b) a' → St w0 (blk b t cs :: H) w' → K a' w') : SK P r ops k K a w := by
  refine effK hF hdst hs (v := .pointer (some ⟨w.heap.size, 0, none⟩)) (w' := { w with heap := w.heap.push (.cells cs t) }) ?_ (hM _) ?_
  · subst hcs
    simp [Instr.box, newVar, newRow]
  · intro a' hF'
    exact next _ _ a' hF' (hS.push (ext_alloc w _) (blk_new w t cs) (fun b hb => by rw [show b = w.heap.size from hb]; exact Nat.le_refl _))
theorem allocK (M' : Nat → List (Nat × Value)) {t : TypeId} (cs : Array Value) (hF : Fr N ds M a) (hS : St w0 H w) (hdst : dstOk ops N = true) (hs : EffAt ops k M (Instr.alloc t true (.tuple #[])))
    (hz : ((P.info? t).bind (·.zero)).map Value.cells = some cs) (hM : ∀ b, NextM ops k M (.pointer (some ⟨b, 0, none⟩)) (M' b))
    (next : ∀ b w' a', Fr N ds (M' b) a' → St w0 (blk b t cs :: H) w' → K a' w') : SK P r ops k K a w := by
  refine effK hF hdst hs (v := .pointer (some ⟨w.heap.size, 0, none⟩)) (w' := { w with heap := w.heap.push (.cells cs t) }) ?_ (hM _) ?_
  · cases hi : P.info? t with
    | none => rw [hi] at hz; simp at hz
    | some i =>
      cases hzz : i.zero with
      | none => rw [hi] at hz; simp [hzz] at hz
      | some z =>
        rw [hi] at hz
        simp [hzz] at hz
        subst hz
        simp [Instr.alloc, zeroValue, typeInfo, hi, hzz, newVar, newRow]
  · intro a' hF'
    exact next _ _ a' hF' (hS.push (ext_alloc w _) (blk_new w t cs) (fun b hb => by rw [show b = w.heap.size from hb]; exact Nat.le_refl _))
theorem storeRawK {t : TypeId} {p : Addr} {v : Value} (hF : Fr N ds M a) (hdst : dstOk ops N = true) (hs : StoreAt ops k M t (.pointer (some p)) v) (hr : (storeVar t p v).run P w = .ok () w')
    (hM : NextM ops k M undef M') (next : ∀ a', Fr N ds M' a' → K a' w') : SK P r ops k K a w := by
  have hs := hs.eq
  cases ho : plainAt ops k M with
  | none => rw [ho] at hs; simp at hs
  | some o =>
    rw [ho] at hs
    simp only [Option.bind_some] at hs
    split at hs
    · rename_i t' x y hop
      simp at hs
      obtain ⟨rfl, h1, h2⟩ := hs
      refine skipK hF hdst ho ?_ hM next
      unfold execOp
      rw [hop]
      simp [Instr.storeAt, Instr.sureAddr, h1, h2, hr]
    · simp at hs
theorem storeK (M' : List (Nat × Value)) (i : Nat) {t tt : TypeId} {b : Nat} {cs : Array Value} (off : Nat) (v : Value) (cs' : Array Value) (hF : Fr N ds M a) (hS : St w0 H w) (hi : H[i]? = some (blk b tt cs)) (hdst : dstOk ops N = true)
    (hs : StoreAt ops k M t (.pointer (some ⟨b, off, none⟩)) v) (hsz : pureSem P (sizeOf t) = some v.cells.size) (hone : v.cells.toList.all Value.oneCell' = true) (hfit : Nat.ble (off + v.cells.size) cs.size = true) (hcs : splice cs off v.cells.toList = cs')
    (hM : NextM ops k M undef M') (next : ∀ w' a', Fr N ds M' a' → St w0 (H.set i (blk b tt cs')) w' → K a' w') : SK P r ops k K a w := by
  have hb := hS.blk hi
  have hsz' := pureSem_run _ _ hsz w
  have hst := run_storeCells_at P b off tt v.cells.toList 0 cs w hb (by simpa using Nat.le_of_ble_eq_true hfit) (fun u hu => List.all_eq_true.1 hone u hu)
  simp only [Nat.add_zero] at hst
  refine storeRawK hF hdst hs (w' := w.setRow b cs') ?_ hM ?_
  · subst hcs
    unfold splice
    simp [storeVar, hsz', hst]
  · intro a' hF'
    refine next _ a' hF' (hS.upd hi rfl rfl rfl (by simp [World.setRow]) (fun j _ hj => setRow_other w b j _ hj) ?_ (fun j hj => .inl hj))
    show (w.setRow b cs').heap[b]? = _
    exact setRow_heap w b cs _ tt _ hb
theorem callK (M' : Value → List (Nat × Value)) {f : FuncId} {args : Array Value} {R : Value → World → Prop} (hF : Fr N ds M a) (hdst : dstOk ops N = true) (hs : CallAt P ops k M f args)
    (hc : Calls P f args w (fun e w' => ∃ v, e = .returned v ∧ R v w')) (hM : ∀ v, NextM ops k M v (M' v)) (next : ∀ v w' a', R v w' → Fr N ds (M' v) a' → K a' w') : SK P r ops k K a w := by
  have hs := hs.eq
  cases ho : plainAt ops k M with
  | none => rw [ho] at hs; simp at hs
  | some o =>
    rw [ho] at hs
    simp only [Option.bind_some] at hs
    split at hs
    · rename_i f' args' hp
      simp at hs
      obtain ⟨rfl, rfl⟩ := hs
      obtain ⟨h1, h2, h3⟩ := plainAt_spec (r := r) ho hF
      refine ⟨o, h1, ?_⟩
      unfold OpG OpR
      rw [if_pos h2, h3, pureSem_run _ _ hp w]
      refine Calls.mono hc ?_
      rintro e w'' ⟨v, rfl, hv⟩
      exact ⟨v, rfl, next v w'' _ hv (nextM_spec h1 hdst hF (hM v))⟩
    · simp at hs
variable {α : Type} {e sz cap : Nat} {f : α → List Value} {ad : Option Addr} {l : List α}
/-- A literal of a slice. -/
theorem litK (M' : Nat → List (Nat × Value)) {t len : Nat} (parts : Array (Nat × Value)) (cs : Array Value) (l : List α) (hF : Fr N ds M a) (hS : St w0 H w) (hdst : dstOk ops N = true) (hs : EffAt ops k M (Instr.buildSlice t len parts))
    (hb : buildCells P t len parts = some (e, cs)) (hf : ∀ x, (f x).length = sz) (hl : l.length = len) (hc : l.flatMap f = cs.toList) (hn : Nat.ble len 16777216 = true) (hM : ∀ b, NextM ops k M (.slice (some ⟨b, 0, none⟩) len len) (M' b))
    (next : ∀ b w' a', Fr N ds (M' b) a' → St w0 (arr e sz f (some ⟨b, 0, none⟩) l.length len l :: H) w' → K a' w') : SK P r ops k K a w := by
  subst hl
  refine effK hF hdst hs (buildSlice_run hb) (hM _) ?_
  intro a' hF'
  have h1 : St w0 (blk w.heap.size e cs :: H) { w with heap := w.heap.push (.cells cs e) } := hS.push (ext_alloc w _) (blk_new w e cs) (fun b hb => by rw [show b = w.heap.size from hb]; exact Nat.le_refl _)
  have h2 := h1.blk_arr (f := f) (sz := sz) (l := l) (n := l.length) hf rfl hc (by have := Nat.le_of_ble_eq_true hn; simp only [maxLen]; omega)
  exact next _ _ a' hF' h2
theorem apd_some {B : Nat} {l l' l3 : List α} (h : apd B l l' = some l3) : l3 = l ++ l' ∧ (l.length + l'.length) * B ≤ 140737488355328 ∧ l.length + l'.length ≤ maxLen := by
  unfold apd at h
  split at h
  · cases h; rename_i h; exact ⟨rfl, h.1, h.2⟩
  · cases h
/-- append to a slice of the call's own. -/
theorem appK (M' : Option Addr → Nat → List (Nat × Value)) (i : Nat) {t ty bytes scap : Nat} {sad : Option Addr} {l' l3 : List α} (hF : Fr N ds M a) (hS : St w0 H w) (hi : H[i]? = some (arr e sz f ad l.length cap l)) (hdst : dstOk ops N = true)
    (hs : EffAt ops k M (Builtin.append_ #[t, t] ty #[.slice ad l.length cap, .slice sad l'.length scap])) (hty : sliceTy P t e sz bytes = true) (hsrc : Arr w sz f sad l'.length scap l') (h1 : ∀ x ∈ l', (f x).all Value.oneCell' = true) (hap : apd bytes l l' = some l3)
    (hM : ∀ ad2 cap2, NextM ops k M (.slice ad2 l3.length cap2) (M' ad2 cap2))
    (next : ∀ ad2 cap2 w' a', Fr N ds (M' ad2 cap2) a' → St w0 (H.set i (arr e sz f ad2 l3.length cap2 l3)) w' → K a' w') : SK P r ops k K a w := by
  obtain ⟨rfl, hb, h63⟩ := apd_some hap
  have hold := hS.holds _ (List.mem_of_getElem? hi)
  obtain ⟨ad2, cap2, w', hr, hown, hg, hblk⟩ := run_app (ty := ty) hty hold.2 hsrc.2 (fun u hu => by
    obtain ⟨x, hx, hux⟩ := List.mem_flatMap.1 hu
    exact List.all_eq_true.1 (h1 x hx) u hux) hb h63
  have hlen : (l ++ l').length = l.length + l'.length := List.length_append
  refine effK hF hdst hs hr (by rw [← hlen]; exact hM ad2 cap2) ?_
  intro a' hF'
  rw [← List.flatMap_append] at hown
  refine next ad2 cap2 w' a' hF' (hS.upd hi hg.os hg.tape hg.output hg.size (fun j hj hnj => hg.block j hj (fun e => hnj e.symm)) ⟨rfl, ?_⟩ ?_)
  · rw [hlen]; exact hown
  · rw [hlen]; exact hblk
/-- append to a slice without room: a new one. -/
theorem appcK (M' : Option Addr → Nat → List (Nat × Value)) {t ty bytes scap : Nat} {sad : Option Addr} {l' l3 : List α} (hF : Fr N ds M a) (hS : St w0 H w) (hdst : dstOk ops N = true)
    (hs : EffAt ops k M (Builtin.append_ #[t, t] ty #[.slice ad l.length l.length, .slice sad l'.length scap])) (hty : sliceTy P t e sz bytes = true) (hd : Arr w sz f ad l.length l.length l) (hsrc : Arr w sz f sad l'.length scap l') (hf : ∀ x, (f x).length = sz) (hap : apd bytes l l' = some l3) (hm : 0 < l'.length)
    (hM : ∀ ad2 cap2, NextM ops k M (.slice ad2 l3.length cap2) (M' ad2 cap2))
    (next : ∀ ad2 cap2 w' a', Fr N ds (M' ad2 cap2) a' → St w0 (arr e sz f ad2 l3.length cap2 l3 :: H) w' → K a' w') : SK P r ops k K a w := by
  obtain ⟨rfl, hb, h63⟩ := apd_some hap
  cases ho : ops[k]? with
  | none =>
    have := hs.eq
    unfold plainAt at this
    rw [ho] at this
    simp at this
  | some o =>
    refine ⟨o, ho, ?_⟩
    have := g_appc (r := r) (f := f) (l := l) (l' := l') (m := l'.length) ho hF hs hty hS hd ⟨sad, scap, rfl, hsrc⟩ hf hm hb h63
    refine this.mono ?_
    intro v w' h
    obtain ⟨ad2, cap2, rfl, h2⟩ := h.openV (i := 0) rfl
    have hlen : (l ++ l').length = l.length + l'.length := List.length_append
    rw [← hlen] at h2 ⊢
    have hpl := hs.eq
    cases hp : plainAt ops k M with
    | none => rw [hp] at hpl; simp at hpl
    | some o' =>
      obtain ⟨h1, _, _⟩ := plainAt_spec (r := r) hp hF
      exact next ad2 cap2 w' _ (nextM_spec ho hdst hF (hM ad2 cap2)) h2
theorem madeCells_list (z : Array Value) (n : Nat) : (madeCells z (n * z.size)).toList = (List.replicate n ()).flatMap fun _ => z.toList := by
  unfold madeCells
  simp only [Array.toList_map, Array.toList_range]
  induction n with
  | zero => simp
  | succ n ih =>
    rw [List.replicate_succ', List.flatMap_append, ← ih]
    rw [show (n + 1) * z.size = n * z.size + z.size by rw [Nat.add_mul, Nat.one_mul], List.range_add, List.map_append]
    congr 1
    simp only [List.map_map, List.flatMap_cons, List.flatMap_nil, List.append_nil]
    apply List.ext_getElem
    · simp
    · intro i h1 h2
      simp at h1 h2
      simp only [List.getElem_map, List.getElem_range, Function.comp]
      have : (n * z.size + i) % z.size = i := by rw [Nat.mul_comm, Nat.mul_add_mod]; exact Nat.mod_eq_of_lt h2
      rw [this]
      simp [h2]
theorem mkI_some {B : Nat} {n : Int} {x : α} {l : List α} (h : mkI B n x = some l) : 0 ≤ n ∧ l = List.replicate n.toNat x ∧ B * n.toNat ≤ 281474976710656 ∧ n.toNat ≤ maxLen := by
  unfold mkI at h
  split at h
  · cases h; rename_i h; exact ⟨h.1, rfl, h.2.1, by simp only [maxLen]; omega⟩
  · cases h
theorem makeK (M' : Nat → List (Nat × Value)) {t bytes : Nat} {n : Int} (x0 : α) {z : Value} {l3 : List α} (hF : Fr N ds M a) (hS : St w0 H w) (hdst : dstOk ops N = true) (hs : EffAt ops k M (Instr.makeSlice t (.int .i64 n) (.int .i64 n)))
    (hty : sliceTy P t e sz bytes = true) (hz : (P.info? e).bind (·.zero) = some z) (hx0 : f x0 = z.cells.toList) (hmk : mkI bytes n x0 = some l3) (hM : ∀ b, NextM ops k M (.slice (some ⟨b, 0, none⟩) l3.length l3.length) (M' b))
    (next : ∀ b w' a', Fr N ds (M' b) a' → St w0 (arr e sz f (some ⟨b, 0, none⟩) l3.length l3.length l3 :: H) w' → K a' w') : SK P r ops k K a w := by
  obtain ⟨h0, rfl, hb, h63⟩ := mkI_some hmk
  obtain ⟨i, z', ht, hi, hz', h1, rfl, hzs, _⟩ := sliceTy_spec hty
  have hzz : z' = z := by rw [hi] at hz; simp [hz'] at hz; exact hz
  subst hzz
  have hn : n = (n.toNat : Int) := by omega
  rw [hn] at hs
  obtain ⟨w', hr, hown, hg⟩ := run_make_full (P := P) w 0 t e i z' sz ht hi hz' h1 .i64 .i64 n.toNat hb h63 (Nat.zero_le _)
  have hx : Ext w w' := ⟨hg.os, hg.tape, hg.output, hg.size, fun j hj => hg.block j hj (by simp)⟩
  have hlen : (List.replicate n.toNat x0).length = n.toNat := List.length_replicate
  refine effK hF hdst hs hr (by have := hM w.heap.size; rw [hlen] at this; exact this) ?_
  intro a' hF'
  refine next _ w' a' hF' (hS.push hx ⟨rfl, ?_⟩ (fun b hb => by simp [Go.Eng.arr, Value.ownBlock] at hb; omega))
  rw [hlen]
  have e1 : (List.replicate n.toNat x0).flatMap f = (madeCells z'.cells (n.toNat * sz)).toList := by
    rw [← hzs, madeCells_list, ← hx0]
    generalize n.toNat = m
    induction m with
    | zero => rfl
    | succ m ih => simp [List.replicate_succ, ih]
  rw [e1]; exact hown
theorem flat_splice (hf : ∀ x, (f x).length = sz) {x' : α} {us : List Value} {j : Nat} (hj : j + us.length ≤ sz) : ∀ (l : List α) (i : Nat) (x : α), l[i]? = some x → f x' = (f x).take j ++ us ++ (f x).drop (j + us.length) →
    (l.flatMap f).take (i * sz + j) ++ us ++ (l.flatMap f).drop (i * sz + j + us.length) = (l.set i x').flatMap f := by
  intro l
  induction l with
  | nil => intro i x h; simp at h
  | cons y l ih =>
    intro i x h hx
    cases i with
    | zero =>
      simp at h
      subst h
      have hy := hf y
      simp only [Nat.zero_mul, Nat.zero_add, List.flatMap_cons, List.set_cons_zero, hx]
      rw [List.take_append_of_le_length (by omega), List.drop_append_of_le_length (by omega)]
      simp [List.append_assoc]
    | succ i =>
      simp at h
      have := ih i x h hx
      have hy := hf y
      have e1 : (i + 1) * sz + j = (f y).length + (i * sz + j) := by rw [hy, Nat.add_mul]; omega
      simp only [List.flatMap_cons, List.set_cons_succ]
      rw [e1, List.take_length_add_append, Nat.add_assoc, List.drop_length_add_append, ← this]
      simp [List.append_assoc]
theorem splice_take {β : Type} {cur us : List β} {p T : Nat} (h1 : p + us.length ≤ T) (h2 : T ≤ cur.length) : (cur.take p ++ us ++ cur.drop (p + us.length)).take T = (cur.take T).take p ++ us ++ (cur.take T).drop (p + us.length) := by
  have e1 : (cur.take p).length = p := by rw [List.length_take]; omega
  have e2 : (cur.take p ++ us).length = p + us.length := by rw [List.length_append, e1]
  rw [List.take_append, List.take_append, e1, e2, List.take_take, List.take_take, Nat.min_eq_right (by omega), Nat.min_eq_left (by omega), List.take_of_length_le (l := us) (by omega), List.drop_take]
theorem setI_some {l l3 : List α} {i : Int} {x : α} (h : setI l i x = some l3) : 0 ≤ i ∧ i < l.length ∧ l3 = l.set i.toNat x := by
  unfold setI at h
  split at h
  · cases h; rename_i h; exact ⟨h.1, h.2, rfl⟩
  · cases h
/-- A store into an element, or a part of one. -/
theorem setK (M' : List (Nat × Value)) (i : Nat) {t : Nat} {j : Int} (off : Nat) (u x : α) (v : Value) {l3 : List α} (hF : Fr N ds M a) (hS : St w0 H w) (hi : H[i]? = some (arr e sz f ad l.length cap l)) (hdst : dstOk ops N = true)
    (hs : StoreAt ops k M t (.pointer (some ((slAddr ad j sz).add off))) v) (hf : ∀ x, (f x).length = sz) (hu : getI l j = some u) (hx : f x = (f u).take off ++ v.cells.toList ++ (f u).drop (off + v.cells.toList.length)) (hfit : Nat.ble (off + v.cells.toList.length) sz = true)
    (hsz : pureSem P (sizeOf t) = some v.cells.size) (hone : v.cells.toList.all Value.oneCell' = true) (hl3 : setI l j x = some l3) (hM : NextM ops k M undef M')
    (next : ∀ w' a', Fr N ds M' a' → l.length = l3.length → St w0 (H.set i (arr e sz f ad l.length cap l3)) w' → K a' w') : SK P r ops k K a w := by
  have hold := hS.holds _ (List.mem_of_getElem? hi)
  obtain ⟨h0, hjl, hgu⟩ := getI_some hu
  obtain ⟨_, _, rfl⟩ := setI_some hl3
  have hfit' := Nat.le_of_ble_eq_true hfit
  rcases hold.2.2 with ⟨h', hz⟩ | ⟨g, cap', cur, h', hbase, hg, hnc, hcm, hcs, htake⟩
  · have : l.length = 0 := hz
    omega
  · simp only [Value.slice.injEq, true_and] at h'
    obtain ⟨rfl, rfl⟩ := h'
    have hjn : j.toNat < l.length := by omega
    have hoff : j.toNat * sz + off + v.cells.toList.length ≤ l.length * sz := by
      have := Nat.mul_le_mul_right sz (show j.toNat + 1 ≤ l.length by omega)
      rw [Nat.add_mul] at this; omega
    have hcap : l.length * sz ≤ cap * sz := Nat.mul_le_mul_right sz hnc
    have hadd : (slAddr (some ⟨g, 0, none⟩) j sz).add off = ⟨g, j.toNat * sz + off, none⟩ := by
      unfold slAddr
      rw [addr_add]
      unfold Addr.add
      split
      · rename_i h; simp [h]
      · simp
    rw [hadd] at hs
    have hsz' := pureSem_run _ _ hsz w
    have hst := run_storeCells_at P g (j.toNat * sz + off) e v.cells.toList 0 cur w hg (by omega) (fun u hu => List.all_eq_true.1 hone u hu)
    simp only [Nat.add_zero] at hst
    have hsp := flat_splice (f := f) hf (x' := x) (us := v.cells.toList) (j := off) hfit' l j.toNat u hgu hx
    have hlen3 : l.length = (l.set j.toNat x).length := by simp
    refine storeRawK hF hdst hs (w' := w.setRow g (cur.toList.take (j.toNat * sz + off) ++ v.cells.toList ++ cur.toList.drop (j.toNat * sz + off + v.cells.toList.length)).toArray) ?_ hM ?_
    · simp [storeVar, hsz', hst]
    · intro a' hF'
      refine next _ a' hF' hlen3 (hS.upd hi rfl rfl rfl (by simp [World.setRow]) (fun q _ hq => setRow_other w g q _ (fun e => hq (by simp [Go.Eng.arr, Value.ownBlock, e]))) ⟨hlen3.symm, ?_, .inr ⟨g, cap, _, rfl, hbase, setRow_heap w g cur _ e _ hg, hnc, hcm, ?_, ?_⟩⟩ (fun q hq => .inl hq))
      · rw [← hsp]
        have h1 := hold.2.1
        simp only [List.length_append, List.length_take, List.length_drop] at h1 ⊢
        omega
      · have : cur.toList.length = cur.size := by simp
        simp only [List.size_toArray, List.length_append, List.length_take, List.length_drop]
        omega
      · rw [← hsp, ← htake]
        have : cur.toList.length = cur.size := by simp
        exact splice_take (by omega) (by omega)
end
end Go.Eng
