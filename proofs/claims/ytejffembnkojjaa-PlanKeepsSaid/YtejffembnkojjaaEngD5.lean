/- The engine, part 16: data with parts elsewhere in memory. -/
import Derived.Test.YtejffembnkojjaaEngD4
namespace Go.Eng
open Go Go.RowKit
abbrev Rel (α : Type) := Frz → List Value → α → Prop
def Rel.Mono {α : Type} (R : Rel α) : Prop := ∀ (μ ν : Frz) (cs : List Value) (x : α), μ.le ν → R μ cs x → R ν cs x
def fN (sz : Nat) (cs : List Value) : List Value := (cs ++ List.replicate sz undef).take sz
theorem fN_len (sz : Nat) (cs : List Value) : (fN sz cs).length = sz := by simp [fN]
/-- Whose cells hold no aggregates. -/
def Rel.One {α : Type} (sz : Nat) (R : Rel α) : Prop := ∀ (μ : Frz) (cs : List Value) (x : α), R μ cs x → (fN sz cs).all Value.oneCell' = true
def RpF {α : Type} (f : α → List Value) : Rel α := fun _ cs x => cs = f x
theorem RpF.mono {α : Type} {f : α → List Value} : (RpF f).Mono := fun _ _ _ _ _ h => h
def ArrQ {α : Type} (μ : Frz) (sz : Nat) (R : Rel α) (ad : Option Addr) (cap : Nat) (css : List (List Value)) (l : List α) : Prop := ArrM μ sz (fN sz) ad cap css ∧ All2 (R μ) css l
/-- A pointer, or none. -/
def PtM {α : Type} (μ : Frz) (T : TypeId) (R : Rel α) (pa : Option Addr) (x : Option α) : Prop :=
  (pa = none ∧ x = none) ∨ ∃ b cs d, pa = some ⟨b, 0, none⟩ ∧ x = some d ∧ BlkM μ b T cs.toArray ∧ R μ cs d
section
variable {α β : Type} {R : Rel α} {μ ν : Frz} {sz cap : Nat} {ad : Option Addr} {css css' : List (List Value)} {l l' : List α} {w : World}
theorem All2.len {R : α → β → Prop} {xs : List α} {ys : List β} (h : All2 R xs ys) : xs.length = ys.length := by
  induction h with
  | nil => rfl
  | cons _ _ ih => simp [ih]
theorem All2.imp {R S : α → β → Prop} {xs : List α} {ys : List β} (h : All2 R xs ys) (hi : ∀ x y, R x y → S x y) : All2 S xs ys := by
  induction h with
  | nil => exact .nil
  | cons h _ ih => exact .cons (hi _ _ h) ih
theorem All2.app {R : α → β → Prop} {xs xs' : List α} {ys ys' : List β} (h : All2 R xs ys) (h' : All2 R xs' ys') : All2 R (xs ++ xs') (ys ++ ys') := by
  induction h with
  | nil => exact h'
  | cons h _ ih => exact .cons h ih
theorem All2.take {R : α → β → Prop} {xs : List α} {ys : List β} (h : All2 R xs ys) : ∀ k, All2 R (xs.take k) (ys.take k) := by
  induction h with
  | nil => intro k; simp; exact .nil
  | cons h _ ih => intro k; cases k with
    | zero => exact .nil
    | succ k => exact .cons h (ih k)
theorem All2.drop {R : α → β → Prop} {xs : List α} {ys : List β} (h : All2 R xs ys) : ∀ k, All2 R (xs.drop k) (ys.drop k) := by
  induction h with
  | nil => intro k; simp; exact .nil
  | cons h h2 ih => intro k; cases k with
    | zero => exact .cons h h2
    | succ k => exact ih k
theorem All2.set {R : α → β → Prop} {xs : List α} {ys : List β} {x : α} {y : β} (h : All2 R xs ys) (hxy : R x y) : ∀ k, All2 R (xs.set k x) (ys.set k y) := by
  induction h with
  | nil => intro k; simp; exact .nil
  | cons h h2 ih => intro k; cases k with
    | zero => exact .cons hxy h2
    | succ k => exact .cons h (ih k)
theorem All2.rep {R : α → β → Prop} {x : α} {y : β} (h : R x y) (n : Nat) : All2 R (List.replicate n x) (List.replicate n y) := by
  induction n with
  | zero => exact .nil
  | succ n ih => exact .cons h ih
theorem All2.mono (hR : R.Mono) (hle : μ.le ν) (h : All2 (R μ) css l) : All2 (R ν) css l := h.imp fun _ _ => hR _ _ _ _ hle
theorem ArrQ.mono (h : ArrQ μ sz R ad cap css l) (hR : R.Mono) (hle : μ.le ν) : ArrQ ν sz R ad cap css l := ⟨h.1.mono hle, h.2.mono hR hle⟩
theorem ArrQ.at (h : ArrQ μ sz R ad cap css l) (hw : FrzAt μ w) : Arr w sz (fN sz) ad l.length cap css := by
  have := h.1 w hw
  rwa [h.2.len] at this
theorem ArrQ.nil : ArrQ μ sz R none 0 [] ([] : List α) := ⟨ArrM.nil, .nil⟩
theorem PtM.mono {T : TypeId} {pa : Option Addr} {x : Option α} (h : PtM μ T R pa x) (hR : R.Mono) (hle : μ.le ν) : PtM ν T R pa x := by
  rcases h with h | ⟨b, cs, d, h1, h2, h3, h4⟩
  · exact .inl h
  · exact .inr ⟨b, cs, d, h1, h2, h3.mono hle, hR _ _ _ _ hle h4⟩
theorem PtM.some {T : TypeId} {pa : Option Addr} {x : Option α} {d : α} (h : PtM μ T R pa x) (hx : x = .some d) : ∃ b cs, pa = Option.some ⟨b, 0, none⟩ ∧ BlkM μ b T cs.toArray ∧ R μ cs d := by
  rcases h with ⟨_, rfl⟩ | ⟨b, cs, d', h1, h2, h3, h4⟩
  · cases hx
  · rw [hx] at h2; cases h2; exact ⟨b, cs, h1, h3, h4⟩
theorem PtM.mk {T : TypeId} {b : Nat} {cs : List Value} {d : α} (h1 : BlkM μ b T cs.toArray) (h2 : R μ cs d) : PtM μ T R (Option.some ⟨b, 0, none⟩) (Option.some d) := .inr ⟨b, cs, d, rfl, rfl, h1, h2⟩
theorem PtM.nil {T : TypeId} : PtM μ T R none none := .inl ⟨rfl, rfl⟩
theorem Blk.toM {b : Nat} {t : TypeId} {cs : Array Value} (h : Blk w b t cs) : BlkM (memOf w) b t cs := fun _w' hw => hw b _ h
theorem BlkM.blk {b : Nat} {t : TypeId} {cs : Array Value} (h : BlkM μ b t cs) (hw : FrzAt μ w) : Blk w b t cs := h w hw
theorem ArrQ.of_own (h : Arr w sz (fN sz) ad l.length cap css) (h2 : All2 (R μ) css l) (hR : R.Mono) (hle : μ.le (memOf w)) : ArrQ (memOf w) sz R ad cap css l := by
  refine ⟨Arr.toM ?_, h2.mono hR hle⟩
  rw [h2.len]; exact h
theorem ArrQ.of_arr {e : Nat} (h : ∀ w, FrzAt ν w → (arr e sz (fN sz) ad l.length cap css).holds w) (h2 : All2 (R μ) css l) (hR : R.Mono) (hle : μ.le ν) : ArrQ ν sz R ad cap css l := by
  refine ⟨?_, h2.mono hR hle⟩
  have hl := h2.len
  intro w hw
  have := h w hw
  rw [← hl] at this
  exact ⟨rfl, Sl.of_own this.2⟩
theorem ArrQ.one (h : All2 (R μ) css l) (hR : R.One sz) : ∀ x ∈ css, (fN sz x).all Value.oneCell' = true := by
  induction h with
  | nil => intro x hx; simp at hx
  | cons h _ ih => intro x hx; rcases List.mem_cons.1 hx with rfl | hx
                   · exact hR _ _ _ h
                   · exact ih x hx
theorem cut_all2 {γ : Type} {xs : List γ} {ys ys2 : List α} {lo hi : Int} {S : γ → α → Prop} (h : All2 S xs ys) (hx : cutI ys lo hi = Option.some ys2) : ∃ xs2, cutI xs lo hi = Option.some xs2 ∧ All2 S xs2 ys2 := by
  unfold cutI at hx ⊢
  split at hx
  · rename_i hc
    cases hx
    rw [h.len, if_pos hc]
    exact ⟨_, rfl, (h.drop _).take _⟩
  · cases hx
end
section
variable {P : Program} {T : World → World → Prop} {D : World → Prop} {w : World} {cs : List Cd} {t : Nat} {α : Type} {sz n cap : Nat} {f : α → List Value} {ad : Option Addr} {l : List α}
theorem obIdxQ {i : Int} {u : α} (h : Arr w sz f ad n cap l) (ht : sliceOf P t sz = true) (hx : condsOk cs = true → getI l i = some u) :
    Ob.ok P T D (.run cs (Instr.indexAt t (.slice ad n cap) (.int .i64 i)) (.pointer (some (slAddr ad i sz)))) :=
  obIdx h ht fun hk => by have := getI_some (hx hk); have := h.len; exact ⟨by omega, by omega⟩
theorem obElQ {i : Int} {u : α} {v : Value} (j : Nat) (hf : ∀ x, (f x).length = sz) (h : ∀ w', D w' → Arr w' sz f ad n cap l) (ht : notAgg P t = true) (hx : condsOk cs = true → getI l i = some u) (hj : (f u)[j]? = some v) :
    Ob.ok P T D (.run cs (Instr.loadAt t (.pointer (some ((slAddr ad i sz).add j)))) v) := by
  intro hk w' e
  obtain ⟨h0, hi, hg⟩ := getI_some (hx hk)
  have hl := (h w' e).len
  obtain ⟨_, _, hc⟩ := (h w' e).cells hf h0 (by omega) u
  rw [getD_of hg] at hc
  exact load1_run ht (hc j _ hj)
theorem obElNQ {m : Nat} {i : Int} {u : α} {us : List Value} (j : Nat) (hf : ∀ x, (f x).length = sz) (h : ∀ w', D w' → Arr w' sz f ad n cap l) (ht : aggSize P t = some m) (hx : condsOk cs = true → getI l i = some u) (hg : us.length = m ∧ ((f u).drop j).take m = us) :
    Ob.ok P T D (.run cs (Instr.loadAt t (.pointer (some ((slAddr ad i sz).add j)))) (.agg us.toArray)) := by
  intro hk w' e
  obtain ⟨h0, hi, hgu⟩ := getI_some (hx hk)
  have hl := (h w' e).len
  obtain ⟨_, _, hc⟩ := (h w' e).cells hf h0 (by omega) u
  rw [getD_of hgu] at hc
  refine loadN_run (by rw [hg.1]; exact ht) (fun q u' hu => ?_)
  rw [addr_add]
  refine hc (j + q) u' ?_
  rw [← hg.2, List.getElem?_take] at hu
  split at hu
  · rwa [List.getElem?_drop] at hu
  · cases hu
end
section
variable {P : Program} {r : Option Nat} {ops : Array Oper} {K : Act → World → Prop} {N : Nat} {ds : List Deferred} {M : List (Nat × Value)} {a : Act} {w w0 : World} {H : List Res} {k : Nat} {α β : Type} {e sz cap : Nat} {f : α → List Value} {ad : Option Addr} {c c' : List α} {l l' l3 : List β}
/-- append to a slice of the call's own, told by other lists of the same lengths. -/
theorem appQK (M' : Option Addr → Nat → List (Nat × Value)) (i : Nat) {t ty bytes scap : Nat} {sad : Option Addr} (hF : Fr N ds M a) (hS : St w0 H w) (hi : H[i]? = some (arr e sz f ad l.length cap c)) (hdst : dstOk ops N = true)
    (hs : EffAt ops k M (Builtin.append_ #[t, t] ty #[.slice ad l.length cap, .slice sad l'.length scap])) (hty : sliceTy P t e sz bytes = true) (hsrc : Arr w sz f sad l'.length scap c') (h1 : ∀ x ∈ c', (f x).all Value.oneCell' = true) (hap : apd bytes l l' = some l3)
    (hM : ∀ ad2 cap2, NextM ops k M (.slice ad2 l3.length cap2) (M' ad2 cap2))
    (next : ∀ ad2 cap2 w' a', Fr N ds (M' ad2 cap2) a' → St w0 (H.set i (arr e sz f ad2 l3.length cap2 (c ++ c'))) w' → K a' w') : SK P r ops k K a w := by
  obtain ⟨rfl, hb, h63⟩ := apd_some hap
  have hold := hS.holds _ (List.mem_of_getElem? hi)
  have hcl : c.length = l.length := hold.1
  have hcl' : c'.length = l'.length := hsrc.len
  have hlen : (l ++ l').length = l.length + l'.length := List.length_append
  have hlen' : (c ++ c').length = l.length + l'.length := by rw [List.length_append, hcl, hcl']
  rw [← hcl] at hi hs hb h63
  rw [← hcl'] at hsrc hs hb h63
  refine appK (l := c) (l' := c') (l3 := c ++ c') M' i hF hS hi hdst hs hty hsrc h1 ?_ ?_ ?_
  · unfold apd; rw [if_pos ⟨hb, h63⟩]
  · intro ad2 cap2; have := hM ad2 cap2; rwa [hlen, ← hlen'] at this
  · intro ad2 cap2 w' a' hF' hS'
    rw [hlen', ← hlen] at hS'
    exact next ad2 cap2 w' a' hF' hS'
theorem litQK (M' : Nat → List (Nat × Value)) {t len : Nat} (parts : Array (Nat × Value)) (cs : Array Value) (c : List α) (l : List β) (hF : Fr N ds M a) (hS : St w0 H w) (hdst : dstOk ops N = true) (hs : EffAt ops k M (Instr.buildSlice t len parts))
    (hb : buildCells P t len parts = some (e, cs)) (hf : ∀ x, (f x).length = sz) (hl : c.length = len) (hll : l.length = len) (hc : c.flatMap f = cs.toList) (hn : Nat.ble len 16777216 = true) (hM : ∀ b, NextM ops k M (.slice (some ⟨b, 0, none⟩) len len) (M' b))
    (next : ∀ b w' a', Fr N ds (M' b) a' → St w0 (arr e sz f (some ⟨b, 0, none⟩) l.length len c :: H) w' → K a' w') : SK P r ops k K a w := by
  refine litK M' parts cs c hF hS hdst hs hb hf hl hc hn hM ?_
  intro b w' a' h1 h2
  rw [hl] at h2
  exact next b w' a' h1 (by rw [hll]; exact h2)
theorem appcQK (M' : Option Addr → Nat → List (Nat × Value)) {t ty bytes scap : Nat} {sad : Option Addr} (hF : Fr N ds M a) (hS : St w0 H w) (hdst : dstOk ops N = true)
    (hs : EffAt ops k M (Builtin.append_ #[t, t] ty #[.slice ad l.length l.length, .slice sad l'.length scap])) (hty : sliceTy P t e sz bytes = true) (hd : Arr w sz f ad l.length l.length c) (hsrc : Arr w sz f sad l'.length scap c') (hf : ∀ x, (f x).length = sz) (hap : apd bytes l l' = some l3) (hm : 0 < l'.length)
    (hM : ∀ ad2 cap2, NextM ops k M (.slice ad2 l3.length cap2) (M' ad2 cap2))
    (next : ∀ ad2 cap2 w' a', Fr N ds (M' ad2 cap2) a' → St w0 (arr e sz f ad2 l3.length cap2 (c ++ c') :: H) w' → K a' w') : SK P r ops k K a w := by
  obtain ⟨rfl, hb, h63⟩ := apd_some hap
  have hcl : c.length = l.length := hd.len
  have hcl' : c'.length = l'.length := hsrc.len
  have hlen : (l ++ l').length = l.length + l'.length := List.length_append
  have hlen' : (c ++ c').length = l.length + l'.length := by rw [List.length_append, hcl, hcl']
  rw [← hcl] at hd hs hb h63
  rw [← hcl'] at hsrc hs hb h63 hm
  refine appcK (l := c) (l' := c') (l3 := c ++ c') M' hF hS hdst hs hty hd hsrc hf ?_ hm ?_ ?_
  · unfold apd; rw [if_pos ⟨hb, h63⟩]
  · intro ad2 cap2; have := hM ad2 cap2; rwa [hlen, ← hlen'] at this
  · intro ad2 cap2 w' a' hF' hS'
    rw [hlen', ← hlen] at hS'
    exact next ad2 cap2 w' a' hF' hS'
end
end Go.Eng
