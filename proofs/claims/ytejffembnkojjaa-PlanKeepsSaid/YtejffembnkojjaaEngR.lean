/- The engine, last part: arguments as they come in, read as plain data. -/
import Derived.Test.YtejffembnkojjaaEngD11
import Derived.ProofKit
import Derived.ChangeOld
import Derived.Carry
import Derived.DataElems
namespace Go.Eng
open Go Go.RowKit
section
variable {H : Type} {enc : TypeId × Value → H} {P : Program} {w : World} {α : Type} {t e : TypeId} {cs : List Value} {sz : Nat}
def Reads (enc : TypeId × Value → H) (P : Program) (w : World) (t : TypeId) (cs : List Value) : Prop := ∃ fuel d, DataW.trod enc P w 0 (fun _ => true) true fuel t cs = some d
theorem Reads.of {v : Value} {d : DataW H} {p : List MemPlace} (h : DataW.Trod enc P w 0 (fun _ => true) true t v d p) : Reads enc P w t v.cells.toList := by
  obtain ⟨f, h⟩ := h; exact ⟨f, _, h⟩
theorem Reads.int {k : IntKind} (ht : P.underlying t = some (.int k)) (h : Reads enc P w t cs) : ∃ n, cs = [.int k n] ∧ (Lit.int k n).wf = true := by
  obtain ⟨f, d, h⟩ := h
  obtain ⟨n, h1, _, h2⟩ := DataW.trod_int ht h
  exact ⟨n, h1, h2⟩
theorem Reads.bool (ht : P.underlying t = some .bool) (h : Reads enc P w t cs) : ∃ b, cs = [.bool b] := by
  obtain ⟨f, d, h⟩ := h
  cases f with
  | zero => simp [DataW.trod] at h
  | succ n =>
    unfold DataW.trod at h
    rw [ht] at h
    split at h <;> simp_all
theorem Reads.len {fs : Array Field} (ht : P.underlying t = some (.struct fs)) (h : Reads enc P w t cs) : cs.length = P.cellsOf t := by
  obtain ⟨f, d, h⟩ := h
  obtain ⟨_, _, _, _, hl, _⟩ := DataW.trod_struct ht h
  exact hl
theorem Reads.field {fs : Array Field} (ht : P.underlying t = some (.struct fs)) (h : Reads enc P w t cs) (i : Nat) {f : Field} (hf : fs[i]? = some f) (m : Nat) (hm : P.cellsOf f.type = m) : Reads enc P w f.type ((cs.drop f.offset).take m) := by
  obtain ⟨fu, d, h⟩ := h
  obtain ⟨xs, n, _, _, _, hx, hall⟩ := DataW.trod_struct ht h
  have hi : i < fs.size := (Array.getElem?_eq_some_iff.1 hf).1
  have := hall i f hf
  rw [List.getElem?_eq_getElem (by omega), hm] at this
  exact ⟨n, _, this⟩
theorem all2_choose {β : Type} {R : β → α → Prop} {ok : α → Prop} : ∀ (css : List β), (∀ c ∈ css, ∃ x, R c x ∧ ok x) → ∃ l, All2 R css l ∧ ∀ x ∈ l, ok x
  | [], _ => ⟨[], .nil, by simp⟩
  | c :: css, h => by
    obtain ⟨x, hx, hk⟩ := h c (by simp)
    obtain ⟨l, hl, hl2⟩ := all2_choose css (fun c hc => h c (by simp [hc]))
    exact ⟨x :: l, .cons hx hl, by simpa using ⟨hk, hl2⟩⟩
/-- A slice that came in: where it lies, and its elements' cells. -/
theorem Reads.row (ht : P.underlying t = some (.slice e)) (hsz : P.cellsOf e = sz) (h0 : 0 < sz) (h : Reads enc P w t cs) :
    ∃ (ad : Option Addr) (cap : Nat) (css : List (List Value)), cs = [.slice ad css.length cap] ∧ ArrM (memOf w) sz (fN sz) ad cap css ∧ ∀ c ∈ css, c.length = sz ∧ Reads enc P w e c := by
  obtain ⟨f, d, h⟩ := h
  rcases DataW.trod_slice ht h with ⟨rfl, _⟩ | ⟨a, len, cap, elems, rest, n, _, rfl, _, _, hl, hm, hlen, hel, _, _⟩
  · exact ⟨none, 0, [], rfl, ArrM.nil, by simp⟩
  · rw [hsz] at hel
    have hget : ∀ i, i < len → ∃ c, w.cells? 0 (a.add (i * sz)) sz = some c ∧ Reads enc P w e c := by
      intro i hi
      have := hel i hi
      rw [List.getElem?_eq_getElem (by omega), Option.bind_eq_some_iff] at this
      obtain ⟨c, h1, h2⟩ := this
      exact ⟨c, h1, n, _, h2⟩
    let css := (List.range len).map fun i => (w.cells? 0 (a.add (i * sz)) sz).getD []
    have hcl : css.length = len := by simp [css]
    have hci : ∀ i, i < len → ∃ c, css[i]? = some c ∧ w.cells? 0 (a.add (i * sz)) sz = some c ∧ Reads enc P w e c := by
      intro i hi
      obtain ⟨c, h1, h2⟩ := hget i hi
      exact ⟨c, by simp [css, hi, h1], h1, h2⟩
    have hlen' : ∀ c ∈ css, c.length = sz ∧ Reads enc P w e c := by
      intro c hc
      obtain ⟨i, hi, he⟩ := List.mem_iff_getElem.1 hc
      obtain ⟨c', h1, h2, h3⟩ := hci i (by omega)
      rw [List.getElem?_eq_getElem hi, he] at h1
      obtain rfl := Option.some.inj h1
      exact ⟨(World.cells?_some h2).2.1, h3⟩
    refine ⟨some a, cap, css, by rw [hcl], Arr.toM ⟨rfl, some a, cap, rfl, ?_, by omega, hm, fun hn => ⟨a, rfl, ?_, ?_⟩⟩, hlen'⟩
    · exact flat_len (fN_len sz) css
    · obtain ⟨c, h1, _⟩ := hget 0 (by omega)
      have := World.cells?_block h1 h0
      simpa [Addr.add] using this
    · intro j u hj
      have hjl : j < (css.flatMap (fN sz)).length := (List.getElem?_eq_some_iff.1 hj).1
      rw [flat_len (fN_len sz), hcl] at hjl
      have hd : j / sz < len := Nat.div_lt_of_lt_mul (by rwa [Nat.mul_comm])
      obtain ⟨c, h1, h2, h3⟩ := hci (j / sz) hd
      have hc := (hlen' c (List.mem_of_getElem? h1)).1
      have hmod := Nat.mod_lt j h0
      have hj2 : j = j / sz * sz + j % sz := by rw [Nat.mul_comm]; exact (Nat.div_add_mod j sz).symm
      rw [hj2, flat_get (fN_len sz) css _ _ c h1 hmod] at hj
      have hfn : fN sz c = c := by simp [fN, ← hc]
      rw [hfn] at hj
      have := (World.cells?_some h2).2.2 (j % sz) hmod
      rw [Addr.add_add, ← hj2] at this
      rw [this, hj]
theorem Reads.sliceQ (ht : P.underlying t = some (.slice e)) (hsz : P.cellsOf e = sz) (h0 : 0 < sz) {R : Rel α} {ok : α → Prop} (hR : ∀ c, c.length = sz → Reads enc P w e c → ∃ x, R (memOf w) c x ∧ ok x) (h : Reads enc P w t cs) :
    ∃ (ad : Option Addr) (cap : Nat) (css : List (List Value)) (l : List α), cs = [.slice ad l.length cap] ∧ ArrQ (memOf w) sz R ad cap css l ∧ ∀ x ∈ l, ok x := by
  obtain ⟨ad, cap, css, rfl, hA, hall⟩ := Reads.row ht hsz h0 h
  obtain ⟨l, h1, h2⟩ := all2_choose (R := R (memOf w)) (ok := ok) css (fun c hc => hR c (hall c hc).1 (hall c hc).2)
  exact ⟨ad, cap, css, l, by rw [h1.len], ⟨hA, h1⟩, h2⟩
theorem Reads.slice (ht : P.underlying t = some (.slice e)) (hsz : P.cellsOf e = sz) (h0 : 0 < sz) {f : α → List Value} {ok : α → Prop} (hR : ∀ c, c.length = sz → Reads enc P w e c → ∃ x, c = f x ∧ ok x) (hf : ∀ x, (f x).length = sz) (h : Reads enc P w t cs) :
    ∃ (ad : Option Addr) (cap : Nat) (l : List α), cs = [.slice ad l.length cap] ∧ ArrM (memOf w) sz f ad cap l ∧ ∀ x ∈ l, ok x := by
  obtain ⟨ad, cap, css, l, rfl, ⟨hA, h1⟩, h2⟩ := Reads.sliceQ (R := RpF f) ht hsz h0 hR h
  have hcs : css = l.map f := by
    clear hA h h2
    induction h1 with
    | nil => rfl
    | cons h _ ih => rw [List.map_cons, ← ih, ← (show _ = f _ from h)]
  subst hcs
  refine ⟨ad, cap, l, rfl, fun w' hw' => ?_, h2⟩
  have := hA w' hw'
  have hfm : (l.map f).flatMap (fN sz) = l.flatMap f := by
    rw [List.flatMap_map]
    congr 1
    funext x
    simp [fN, ← hf x]
  unfold Arr at this ⊢
  rw [hfm] at this
  simpa using this
theorem Reads.struct {fs : Array Field} (ht : P.underlying t = some (.struct fs)) {r : Reach} {b0 : Nat} {v : Value} (hv : Value.okWide P w r b0 t v) : ∃ cs : List Value, v = .agg cs.toArray ∧ v.cells.toList = cs := by
  obtain ⟨c, rfl, _⟩ := WideShapes.okWide_struct ht hv
  exact ⟨c.toList, by simp, by simp [Value.cells]⟩
end
end Go.Eng
