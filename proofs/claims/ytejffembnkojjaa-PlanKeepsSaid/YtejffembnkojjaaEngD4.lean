/- The engine, part 15: cells of plain data, parts of slices. -/
import Derived.Test.YtejffembnkojjaaEngD3
namespace Go.Eng
open Go Go.RowKit
def fK (k : IntKind) (x : Int) : List Value := [.int k x]
theorem fK_len (k : IntKind) (x : Int) : (fK k x).length = 1 := rfl
def fB (x : Bool) : List Value := [.bool x]
theorem fB_len (x : Bool) : (fB x).length = 1 := rfl
def fStr (x : ByteArray) : List Value := [.string x]
theorem fStr_len (x : ByteArray) : (fStr x).length = 1 := rfl
section
variable {P : Program} {T : World → World → Prop} {D : World → Prop} {w : World} {cs : List Cd} {t : Nat} {α : Type} {sz n cap : Nat} {f : α → List Value} {ad : Option Addr} {l l2 : List α} {lo hi : Int} {γ : Type} {c : List γ} {g : γ → List Value}
theorem cutI_some (h : cutI l lo hi = some l2) : ∃ a b : Nat, lo = a ∧ hi = b ∧ a ≤ b ∧ b ≤ l.length ∧ l2 = (l.drop a).take (b - a) ∧ l2.length = b - a := by
  unfold cutI at h
  split at h
  · rename_i hc
    cases h
    refine ⟨lo.toNat, hi.toNat, by omega, by omega, by omega, by omega, rfl, ?_⟩
    simp; omega
  · cases h
theorem Arr.cutD (h : Arr w sz f ad n cap l) (hf : ∀ x, (f x).length = sz) (hx : cutI l lo hi = some l2) : Arr w sz f (slOff ad cap lo.toNat sz) l2.length (cap - lo.toNat) l2 := by
  obtain ⟨a, b, rfl, rfl, h1, h2, rfl, h3⟩ := cutI_some hx
  have hn := h.len
  have hle := h.le
  rw [h3, Int.toNat_natCast]
  exact h.cut hf h1 (by omega) (by omega) (Nat.le_refl _)
theorem Arr.cutMD (h : Arr w sz f ad n cap l) (hf : ∀ x, (f x).length = sz) (hx : cutI l lo hi = some l2) : Arr w sz f (slOff ad hi.toNat lo.toNat sz) l2.length l2.length l2 := by
  obtain ⟨a, b, rfl, rfl, h1, h2, rfl, h3⟩ := cutI_some hx
  have hn := h.len
  have hle := h.le
  rw [h3, Int.toNat_natCast, Int.toNat_natCast]
  exact h.cut hf h1 (by omega) (Nat.le_refl _) (by omega)
theorem obCutLH (ht : sliceOf P t sz = true) (h : Arr w sz g ad l.length cap c) (hx : condsOk cs = true → cutI l lo hi = some l2) :
    Ob.ok P T D (.run cs (Instr.sliceAt t (.slice ad l.length cap) (some (.int .i64 lo)) (some (.int .i64 hi)) none) (.slice (slOff ad cap lo.toNat sz) l2.length (cap - lo.toNat))) := by
  intro hk
  obtain ⟨a, b, rfl, rfl, h1, h2, rfl, h3⟩ := cutI_some (hx hk)
  have hle := h.le
  rw [h3, Int.toNat_natCast]
  exact obSliceLH (P := P) (T := T) (D := D) (cs := cs) ht (fun _ => ⟨h1, by omega⟩) hk
theorem obCutL (ht : sliceOf P t sz = true) (_h : Arr w sz g ad l.length cap c) (hx : condsOk cs = true → cutI l lo ((l.length : Nat) : Int) = some l2) :
    Ob.ok P T D (.run cs (Instr.sliceAt t (.slice ad l.length cap) (some (.int .i64 lo)) none none) (.slice (slOff ad cap lo.toNat sz) l2.length (cap - lo.toNat))) := by
  intro hk
  obtain ⟨a, b, rfl, hb, h1, h2, rfl, h3⟩ := cutI_some (hx hk)
  have hb' : l.length = b := by omega
  rw [h3, Int.toNat_natCast, ← hb']
  exact obSliceL (P := P) (T := T) (D := D) (cs := cs) ht (fun _ => by omega) hk
theorem obCutH (ht : sliceOf P t sz = true) (h : Arr w sz g ad l.length cap c) (hx : condsOk cs = true → cutI l 0 hi = some l2) :
    Ob.ok P T D (.run cs (Instr.sliceAt t (.slice ad l.length cap) none (some (.int .i64 hi)) none) (.slice (slOff ad cap (0 : Int).toNat sz) l2.length (cap - (0 : Int).toNat))) := by
  intro hk
  obtain ⟨a, b, ha, rfl, h1, h2, rfl, h3⟩ := cutI_some (hx hk)
  have ha' : a = 0 := by omega
  subst ha'
  have hle := h.le
  rw [h3]
  have := obSliceH (P := P) (T := T) (D := D) (cs := cs) (n := l.length) (cap := cap) (ad := ad) (hi := b) ht (fun _ => by omega) hk
  simpa using this
theorem obCutHM (ht : sliceOf P t sz = true) (h : Arr w sz g ad l.length cap c) (hx : condsOk cs = true → cutI l 0 hi = some l2) :
    Ob.ok P T D (.run cs (Instr.sliceAt t (.slice ad l.length cap) none (some (.int .i64 hi)) (some (.int .i64 hi))) (.slice (slOff ad hi.toNat (0 : Int).toNat sz) l2.length l2.length)) := by
  intro hk
  obtain ⟨a, b, ha, rfl, h1, h2, rfl, h3⟩ := cutI_some (hx hk)
  have ha' : a = 0 := by omega
  subst ha'
  have hle := h.le
  rw [h3]
  have := obSliceHM (P := P) (T := T) (D := D) (cs := cs) (n := l.length) (cap := cap) (ad := ad) (hi := b) (mx := b) ht (fun _ => by omega) hk
  simpa using this
end
end Go.Eng
