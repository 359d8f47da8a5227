/- The engine, part 14: a region in whatever order, told in one order: what only reads as early as it can, effects one behind the other. -/
import Derived.Test.YtejffembnkojjaaEngD2
namespace Go.Eng
open Go Go.RowKit

def lastW (ops : Array Oper) : List Nat → Nat → Option Nat
  | [], _ => none
  | j :: l, t => match lastW ops l t with | some q => some q | none => bif (match dstAt ops j with | some d => Nat.beq d t | none => false) then some j else none
/-- Operation i reads, wherever D holds, the value v. -/
def ReadAt (P : Program) (r : Option Nat) (ops : Array Oper) (D : World → Prop) (i : Nat) (a : Act) (v : Value) : Prop :=
  ∃ o, ops[i]? = some o ∧ ∀ a' w', (∀ t ∈ o.looksAt ops, a'.tmps.getD t undef = a.tmps.getD t undef) → D w' → OpG P r ops o a' w' (fun v' w'' => v' = v ∧ w'' = w')
def WRun (P : Program) (r : Option Nat) (ops : Array Oper) (D : World → Prop) (eff : List Nat) (K : Act → World → Prop) : List Nat → Act → World → Prop
  | [], a, w => K a w
  | i :: l, a, w => bif eff.contains i then SK P r ops i (fun a' w' => D w' ∧ WRun P r ops D eff K l a' w') a w else ∃ v, ReadAt P r ops D i a v ∧ WRun P r ops D eff K l (a.put (dstAt ops i) v) w
/-- Behind an effect each one comes behind it by its edges. -/
def stageOk (ops : Array Oper) (eff : List Nat) : Option Nat → List Nat → Bool
  | _, [] => true
  | e, i :: l => (match e with | some e => ((masks ops.toList []).getD i 0).testBit e | none => true) && stageOk ops eff (bif eff.contains i then some i else e) l
def srcsOk (ops : Array Oper) : List Nat → List Nat → Bool
  | _, [] => true
  | pre, i :: l => (match ops[i]? with | some o => (o.looksAt ops).all fun t => lastW ops pre t == srcOf ops i t | none => false) && srcsOk ops (pre ++ [i]) l
def nodupB : List Nat → Bool
  | [] => true
  | i :: l => !l.contains i && nodupB l
def canonOk (ops : Array Oper) (m : Nat) (eff l : List Nat) : Bool :=
  nodupB l && l.all (fun i => Nat.blt i m) && (List.range m).all (fun i => l.contains i) && stageOk ops eff none l && srcsOk ops [] l &&
  ((List.range m).all fun j => match dstAt ops j with | some t => lastW ops l t == srcOf ops m t | none => true) &&
  eff.all (fun e => match ops[e]? with | some o => plainOp o.op | none => false)
section
variable {P : Program} {r : Option Nat} {ops : Array Oper} {Q : Exit → Act → World → Prop} {K : Act → World → Prop} {D : World → Prop} {N m : Nat} {eff : List Nat}
theorem nodupB_spec : ∀ {l : List Nat}, nodupB l = true → l.Nodup := by
  intro l
  induction l with
  | nil => intro _; exact List.nodup_nil
  | cons i l ih =>
    intro h
    rw [nodupB, Bool.and_eq_true] at h
    exact List.nodup_cons.2 ⟨by simpa using h.1, ih h.2⟩
theorem lastW_mem : ∀ {l : List Nat} {t j : Nat}, lastW ops l t = some j → j ∈ l ∧ dstAt ops j = some t := by
  intro l
  induction l with
  | nil => intro t j h; simp [lastW] at h
  | cons i l ih =>
    intro t j h
    rw [lastW] at h
    cases hl : lastW ops l t with
    | some q => rw [hl] at h; cases h; exact ⟨List.mem_cons_of_mem _ (ih hl).1, (ih hl).2⟩
    | none =>
      rw [hl] at h
      simp only at h
      cases hd : dstAt ops i with
      | none => rw [hd] at h; simp at h
      | some d =>
        rw [hd] at h
        simp only at h
        cases hb : Nat.beq d t with
        | false => rw [hb] at h; simp at h
        | true => rw [hb] at h; simp at h; rw [Nat.beq_eq] at hb; subst hb; subst h; exact ⟨List.mem_cons_self .., hd⟩
theorem lastW_snoc {l : List Nat} {i t : Nat} : lastW ops (l ++ [i]) t = if dstAt ops i = some t then some i else lastW ops l t := by
  induction l with
  | nil =>
    simp only [List.nil_append, lastW]
    cases hd : dstAt ops i with
    | none => simp
    | some d =>
      by_cases h : d = t
      · subst h; simp
      · have : Nat.beq d t = false := by rw [← Bool.not_eq_true, Nat.beq_eq]; exact h
        simp [this, h]
  | cons j l ih =>
    simp only [List.cons_append, lastW, ih]
    by_cases h : dstAt ops i = some t
    · rw [if_pos h]; simp [h]
    · rw [if_neg h, if_neg h]
theorem srcsOk_spec : ∀ {l pre : List Nat}, srcsOk ops pre l = true → ∀ q i o, l[q]? = some i → ops[i]? = some o → ∀ t ∈ o.looksAt ops, lastW ops (pre ++ l.take q) t = srcOf ops i t := by
  intro l
  induction l with
  | nil => intro pre _ q i o h; simp at h
  | cons j l ih =>
    intro pre h q i o hq ho t ht
    rw [srcsOk, Bool.and_eq_true] at h
    cases q with
    | zero =>
      simp at hq
      subst hq
      rw [ho] at h
      have := List.all_eq_true.1 h.1 t ht
      simpa using this
    | succ q =>
      have := ih h.2 q i o (by simpa using hq) ho t ht
      simpa [List.append_assoc] using this
theorem stageOk_spec : ∀ {l : List Nat} {e0 : Option Nat}, stageOk ops eff e0 l = true → ∀ q i, l[q]? = some i → (∀ e, e0 = some e → (∀ x ∈ l.take q, x ∉ eff) → Anc ops e i) ∧ ∀ p e, p < q → l[p]? = some e → e ∈ eff → ∃ p' e', p ≤ p' ∧ p' < q ∧ l[p']? = some e' ∧ e' ∈ eff ∧ Anc ops e' i := by
  intro l
  induction l with
  | nil => intro e0 _ q i h; simp at h
  | cons j l ih =>
    intro e0 h q i hq
    unfold stageOk at h
    rw [Bool.and_eq_true] at h
    cases q with
    | zero =>
      simp at hq
      subst hq
      refine ⟨fun e he _ => ?_, fun p e hp => by omega⟩
      subst he
      exact testBit_anc h.1
    | succ q =>
      have hq' : l[q]? = some i := by simpa using hq
      obtain ⟨h1, h2⟩ := ih h.2 q i hq'
      by_cases hj : j ∈ eff
      · have hc : eff.contains j = true := by simpa using hj
        rw [hc] at h1
        simp only [cond_true, Option.some.injEq] at h1
        refine ⟨fun e _ hx => absurd hj (hx j (by simp)), fun p e hp hpe he => ?_⟩
        cases p with
        | zero =>
          -- j itself, or one behind it
          by_cases hx : ∀ x ∈ l.take q, x ∉ eff
          · exact ⟨0, j, Nat.le_refl _, by omega, by simp, hj, h1 j rfl hx⟩
          · simp only [Classical.not_forall] at hx
            obtain ⟨x, hxm, hxe⟩ := hx
            obtain ⟨p1, hp1⟩ := List.mem_iff_getElem?.1 hxm
            rw [List.getElem?_take] at hp1
            split at hp1
            · rename_i hlt
              obtain ⟨p', e', ha, hb, hc', hd, hA⟩ := h2 p1 x hlt hp1 (Classical.not_not.1 hxe)
              exact ⟨p' + 1, e', by omega, by omega, by simpa using hc', hd, hA⟩
            · cases hp1
        | succ p =>
          obtain ⟨p', e', ha, hb, hc', hd, hA⟩ := h2 p e (by omega) (by simpa using hpe) he
          exact ⟨p' + 1, e', by omega, by omega, by simpa using hc', hd, hA⟩
      · have hc : eff.contains j = false := by simpa using hj
        rw [hc] at h1
        simp only [cond_false] at h1
        refine ⟨fun e he hx => h1 e he (fun x hxm => hx x (by simp [hxm])), fun p e hp hpe he => ?_⟩
        cases p with
        | zero => simp at hpe; subst hpe; exact absurd he hj
        | succ p =>
          obtain ⟨p', e', ha, hb, hc', hd, hA⟩ := h2 p e (by omega) (by simpa using hpe) he
          exact ⟨p' + 1, e', by omega, by omega, by simpa using hc', hd, hA⟩
theorem getElem?_of_getD {x y : Array Value} {t : Nat} (hs : x.size = y.size) (h : x.getD t undef = y.getD t undef) : x[t]? = y[t]? := by
  rw [Array.getD_eq_getD_getElem?, Array.getD_eq_getD_getElem?] at h
  by_cases ht : t < x.size
  · rw [Array.getElem?_eq_getElem ht, Array.getElem?_eq_getElem (by omega)] at h ⊢
    simpa using h
  · rw [Array.getElem?_eq_none (by omega), Array.getElem?_eq_none (by omega)]
theorem OpG_congr {o : Oper} {a a' : Act} {w : World} {R : Value → World → Prop} (hp : plainOp o.op = true) (hs : a'.tmps.size = a.tmps.size) (h : ∀ t ∈ o.looksAt ops, a'.tmps.getD t undef = a.tmps.getD t undef) (hG : OpG P r ops o a w R) : OpG P r ops o a' w R := by
  have hw : Region.wanted o (yielded ops a'.tmps) = Region.wanted o (yielded ops a.tmps) := by
    unfold Region.wanted
    cases hg : o.guard with
    | none => rfl
    | some jw =>
      obtain ⟨j, want⟩ := jw
      simp only
      have : yielded ops a'.tmps j = yielded ops a.tmps j := by
        unfold yielded
        cases hd : (ops[j]?).bind (·.dst) with
        | none => simp
        | some g =>
          have hmem : g ∈ o.looksAt ops := by
            unfold Oper.looksAt
            rw [hg]
            refine List.mem_append_right _ ?_
            simp [hd]
          have := getElem?_of_getD hs (h g hmem)
          simp [this]
      rw [this]
  have he : o.semAt r a'.eval = o.semAt r a.eval := by
    rw [semAt_plain hp, semAt_plain hp]
    refine execOp_congr o (fun cs b hh => by rw [hh] at hp; simp [plainOp] at hp) ?_
    intro x hx
    cases x with
    | tmp t => exact h t (List.mem_append_left _ (List.mem_filterMap.2 ⟨.tmp t, by simpa using hx, rfl⟩))
    | const v => rfl
    | global g => rfl
    | func f => rfl
  unfold OpG OpR at *
  rw [hw, he]
  exact hG
structure FIs (ops : Array Oper) (N : Nat) (a0 : Act) (vals : Nat → Value) (l : List Nat) (b : Act) : Prop where
  size : b.tmps.size = N
  dfs : b.defers = a0.defers
  slot : ∀ t, b.tmps.getD t undef = (match lastW ops l t with | some j => vals j | none => a0.tmps.getD t undef)
theorem FIs.put {a0 b : Act} {vals : Nat → Value} {l : List Nat} {i : Nat} {v : Value} (h : FIs ops N a0 vals l b) (hdst : dstOk ops N = true) (hi : i < ops.size) (hn : i ∉ l) : FIs ops N a0 (updV vals i v) (l ++ [i]) (b.put (dstAt ops i) v) := by
  refine ⟨by rw [put_size]; exact h.size, by rw [put_defers]; exact h.dfs, fun t => ?_⟩
  rw [lastW_snoc]
  by_cases hd : dstAt ops i = some t
  · rw [if_pos hd, hd]
    have : t < b.tmps.size := by
      rw [h.size]
      exact dstOk_spec hdst (Array.getElem?_eq_getElem hi) (by simpa [dstAt, Array.getElem?_eq_getElem hi] using hd)
    rw [put_same this]
    simp [updV]
  · rw [if_neg hd, put_other hd, h.slot t]
    cases hl : lastW ops l t with
    | none => rfl
    | some j =>
      have : j ≠ i := fun e => hn (e ▸ (lastW_mem hl).1)
      simp [updV, this]
theorem region_canon {id : Nat} (m : Nat) (eff l : List Nat) {a : Act} {w : World} (hmo : P.follows .mixedOrders = true) (hck : (dstOk ops N && ordOk ops m && tailOk ops m && edgesOk ops && Nat.ble m ops.size && canonOk ops m eff l) = true) (hN : a.tmps.size = N)
    (hD : D { w with drawn := w.drawn + 1 }) (h : WRun P r ops D eff (fun a w => WI P r ops Q m a w) l a { w with drawn := w.drawn + 1 }) : WP P r (.region id ops true) Q a w := by
  simp only [Bool.and_eq_true, canonOk] at hck
  obtain ⟨⟨⟨⟨⟨h1, h2⟩, h3⟩, h4⟩, h5⟩, ⟨⟨⟨⟨⟨c1, c2⟩, c3⟩, c4⟩, c5⟩, c6⟩, c7⟩ := hck
  have hmn := Nat.le_of_ble_eq_true h5
  have hnd := nodupB_spec c1
  have hlt : ∀ i ∈ l, i < m := fun i hi => Nat.blt_eq.mp (List.all_eq_true.1 c2 i hi)
  have hall : ∀ i, i < m → i ∈ l := fun i hi => by simpa using List.all_eq_true.1 c3 i (List.mem_range.2 hi)
  have hpl : ∀ e ∈ eff, ∀ o, ops[e]? = some o → plainOp o.op = true := fun e he o ho => by have := List.all_eq_true.1 c7 e he; rw [ho] at this; exact this
  -- what a reading operation of the list gives
  let ReadV : (Nat → Value) → Nat → Prop := fun vals i => ∃ o, ops[i]? = some o ∧ ∀ a' w', (∀ t ∈ o.looksAt ops, a'.tmps.getD t undef = slotOf ops a vals i t) → D w' → OpG P r ops o a' w' (fun v' w'' => v' = vals i ∧ w'' = w')
  have pos : ∀ p i, i ∈ l.take p → ∃ q, q < p ∧ l[q]? = some i := fun p i hi => by
    obtain ⟨q, hq⟩ := List.mem_iff_getElem?.1 hi
    rw [List.getElem?_take] at hq
    split at hq
    · exact ⟨q, by assumption, hq⟩
    · cases hq
  have inj : ∀ p q i, l[p]? = some i → l[q]? = some i → p = q := fun p q i hp hq => by
    have hp1 := (List.getElem?_eq_some_iff.1 hp).1
    have hq1 := (List.getElem?_eq_some_iff.1 hq).1
    have e1 : l[p] = i := (List.getElem?_eq_some_iff.1 hp).2
    have e2 : l[q] = i := (List.getElem?_eq_some_iff.1 hq).2
    rcases Nat.lt_trichotomy p q with h' | h' | h'
    · exact absurd (e1.trans e2.symm) (List.pairwise_iff_getElem.1 hnd p q hp1 hq1 h')
    · exact h'
    · exact absurd (e2.trans e1.symm) (List.pairwise_iff_getElem.1 hnd q p hq1 hp1 h')
  have notin : ∀ p i, l[p]? = some i → i ∉ l.take p := fun p i hp hi => by
    obtain ⟨q, hq, hqi⟩ := pos p i hi
    have := inj p q i hp hqi
    omega
  have srcs : ∀ q i o, l[q]? = some i → ops[i]? = some o → ∀ t ∈ o.looksAt ops, lastW ops (l.take q) t = srcOf ops i t := fun q i o hq ho t ht => by
    have := srcsOk_spec c5 q i o hq ho t ht
    simpa using this
  have slots : ∀ (vals vals' : Nat → Value) p, (∀ i ∈ l.take p, vals' i = vals i) → ∀ q i o, q ≤ p → l[q]? = some i → ops[i]? = some o → ∀ t ∈ o.looksAt ops, slotOf ops a vals' i t = slotOf ops a vals i t := by
    intro vals vals' p hv q i o hqp hq ho t ht
    unfold slotOf
    have hs := srcs q i o hq ho t ht
    cases hl : srcOf ops i t with
    | none => rfl
    | some j =>
      rw [hl] at hs
      have := (lastW_mem hs).1
      exact hv j (List.mem_of_mem_take (List.take_take ▸ (by rw [Nat.min_eq_left hqp]; exact this) : j ∈ (l.take p).take q))
  have slotB : ∀ (vals : Nat → Value) (b : Act) p i o, FIs ops N a vals (l.take p) b → l[p]? = some i → ops[i]? = some o → ∀ t ∈ o.looksAt ops, b.tmps.getD t undef = slotOf ops a vals i t := by
    intro vals b p i o hb hp ho t ht
    rw [hb.slot t, srcs p i o hp ho t ht]
    rfl
  have readmono : ∀ (vals vals' : Nat → Value) p, (∀ i ∈ l.take p, vals' i = vals i) → ∀ i ∈ l.take p, ReadV vals i → ReadV vals' i := by
    intro vals vals' p hv i hi hr
    obtain ⟨o, ho, hr⟩ := hr
    obtain ⟨q, hq, hqi⟩ := pos p i hi
    refine ⟨o, ho, fun a' w' hs hw => ?_⟩
    rw [hv i hi]
    exact hr a' w' (fun t ht => by rw [hs t ht, slots vals vals' p hv q i o (by omega) hqi ho t ht]) hw
  have takeS : ∀ p i, l[p]? = some i → l.take (p + 1) = l.take p ++ [i] := fun p i hp => by
    rw [List.take_add_one, hp]; rfl
  have dropS : ∀ p i, l[p]? = some i → l.drop p = i :: l.drop (p + 1) := fun p i hp => by
    have hp1 := (List.getElem?_eq_some_iff.1 hp).1
    rw [List.drop_eq_getElem_cons hp1, (List.getElem?_eq_some_iff.1 hp).2]
  have lop : ∀ p i, l[p]? = some i → i < ops.size := fun p i hp => by
    have := hlt i (List.mem_of_getElem? hp)
    omega
  have absorb : ∀ n p (vals : Nat → Value) (b : Act) (w : World), l.length - p = n → p ≤ l.length → FIs ops N a vals (l.take p) b → (∀ i ∈ l.take p, i ∉ eff → ReadV vals i) → WRun P r ops D eff (fun a w => WI P r ops Q m a w) (l.drop p) b w →
      ∃ p' vals' b', p ≤ p' ∧ p' ≤ l.length ∧ (∀ i ∈ l.take p, vals' i = vals i) ∧ FIs ops N a vals' (l.take p') b' ∧ (∀ i ∈ l.take p', i ∉ eff → ReadV vals' i) ∧ (∀ i, l[p']? = some i → i ∈ eff) ∧ WRun P r ops D eff (fun a w => WI P r ops Q m a w) (l.drop p') b' w ∧ (∀ e ∈ eff, e ∈ l.take p' → e ∈ l.take p) := by
    intro n
    induction n with
    | zero =>
      intro p vals b w hn hp hb hr hw
      exact ⟨p, vals, b, Nat.le_refl _, hp, fun _ _ => rfl, hb, hr, fun i hi => by have := (List.getElem?_eq_some_iff.1 hi).1; omega, hw, fun _ _ h => h⟩
    | succ n ih =>
      intro p vals b w hn hp hb hr hw
      have hpl' : p < l.length := by omega
      obtain ⟨i, hi⟩ : ∃ i, l[p]? = some i := ⟨_, List.getElem?_eq_getElem hpl'⟩
      by_cases hie : i ∈ eff
      · exact ⟨p, vals, b, Nat.le_refl _, hp, fun _ _ => rfl, hb, hr, fun i' hi' => by rw [hi] at hi'; cases hi'; exact hie, hw, fun _ _ h => h⟩
      · have hc : eff.contains i = false := by simpa using hie
        rw [dropS p i hi, WRun, hc] at hw
        simp only [cond_false] at hw
        obtain ⟨v, hrd, hw⟩ := hw
        have hni := notin p i hi
        have hag : ∀ j ∈ l.take p, updV vals i v j = vals j := fun j hj => by
          have : j ≠ i := fun e => hni (e ▸ hj)
          simp [updV, this]
        have hb' := hb.put (v := v) h1 (lop p i hi) hni
        rw [← takeS p i hi] at hb'
        obtain ⟨p', vals', b', k1, k2, k3, k4, k5, k6, k7, k8⟩ := ih (p + 1) (updV vals i v) (b.put (dstAt ops i) v) w (by omega) (by omega) hb' (fun j hj hje => by
          rw [takeS p i hi] at hj
          rcases List.mem_append.1 hj with hj | hj
          · exact readmono vals _ p hag j hj (hr j hj hje)
          · simp at hj
            subst hj
            obtain ⟨o, ho, hro⟩ := hrd
            refine ⟨o, ho, fun a' w' hs hw' => ?_⟩
            have : updV vals j v j = v := by simp [updV]
            rw [this]
            refine hro a' w' (fun t ht => ?_) hw'
            rw [hs t ht, slotB vals b p j o hb hi ho t ht, slots vals (updV vals j v) p hag p j o (Nat.le_refl _) hi ho t ht]) hw
        refine ⟨p', vals', b', by omega, k2, fun j hj => ?_, k4, k5, k6, k7, fun e he hep => ?_⟩
        · rw [k3 j (by rw [takeS p i hi]; exact List.mem_append_left _ hj), hag j hj]
        · have := k8 e he hep
          rw [takeS p i hi] at this
          rcases List.mem_append.1 this with h' | h'
          · exact h'
          · simp at h'; subst h'; exact absurd he hie
  let G : (Nat → Bool) → (Nat → Value) → World → Prop := fun S σ w => ∃ p vals b, p ≤ l.length ∧ (∀ i, S i = true → i ∈ l.take p) ∧ (∀ e ∈ eff, e ∈ l.take p → S e = true) ∧ (∀ i, S i = true → σ i = vals i) ∧ D w ∧
    FIs ops N a vals (l.take p) b ∧ (∀ i ∈ l.take p, i ∉ eff → ReadV vals i) ∧ (∀ i, l[p]? = some i → i ∈ eff) ∧ WRun P r ops D eff (fun a w => WI P r ops Q m a w) (l.drop p) b w
  refine region_anyG (N := N) (m := m) (G := G) hmo h1 h2 h3 h4 hmn ?_ hN ?_ (fun _ => undef) ?_ ?_
  · intro S σ a1 w1 i o him ho hSi hanc hcl hlow hsz hdf hG hlook
    obtain ⟨p, vals, b, g1, g2, g3, g4, g5, g6, g7, g8, g9⟩ := hG
    have hsrc : ∀ t ∈ o.looksAt ops, ∀ j, srcOf ops i t = some j → S j = true := by
      intro t ht j hj
      obtain ⟨hji, hdj, _⟩ := srcOf_some hj
      obtain ⟨xo, hxo, hxd⟩ := dstAt_oper hdj
      rcases ordOk_spec h2 hji him hxo ho with hap | hA
      · exact absurd ht ((Oper.apart_spec hap).1 t hxd)
      · exact hanc j hA
    have hslot : ∀ t ∈ o.looksAt ops, a1.tmps.getD t undef = slotOf ops a vals i t := by
      intro t ht
      rw [hlook t ht]
      unfold slotOf
      cases hl : srcOf ops i t with
      | none => rfl
      | some j => exact g4 j (hsrc t ht j hl)
    by_cases hip : i ∈ l.take p
    · have hie : i ∉ eff := fun he => by have := g3 i he hip; rw [hSi] at this; cases this
      obtain ⟨o', ho', hr⟩ := g7 i hip hie
      rw [ho] at ho'
      cases ho'
      refine (hr a1 w1 hslot g5).mono ?_
      rintro v w' ⟨rfl, rfl⟩
      refine ⟨p, vals, b, g1, fun j hj => ?_, fun e he hep => by simp [g3 e he hep], fun j hj => ?_, g5, g6, g7, g8, g9⟩
      · rcases Bool.or_eq_true _ _ ▸ hj with hj | hj
        · exact g2 j hj
        · rw [Nat.beq_eq] at hj; subst hj; exact hip
      · rcases Bool.or_eq_true _ _ ▸ hj with hj | hj
        · by_cases hji : j = i
          · subst hji; simp [updV]
          · simp [updV, hji, g4 j hj]
        · rw [Nat.beq_eq] at hj; subst hj; simp [updV]
    · -- it is the next effect
      obtain ⟨q, hq⟩ := List.mem_iff_getElem?.1 (hall i him)
      have hqp : p ≤ q := by
        rcases Nat.lt_or_ge q p with h' | h'
        · exact absurd (List.mem_of_getElem? (i := q) (by rw [List.getElem?_take, if_pos h']; exact hq)) hip
        · exact h'
      have hql := (List.getElem?_eq_some_iff.1 hq).1
      obtain ⟨e, he⟩ : ∃ e, l[p]? = some e := ⟨_, List.getElem?_eq_getElem (by omega)⟩
      have hee := g8 e he
      have hpq : q = p := by
        rcases Nat.lt_or_ge p q with h' | h'
        · obtain ⟨p', e', k1, k2, k3, k4, k5⟩ := (stageOk_spec c4 q i hq).2 p e h' he hee
          have := g2 e' (hanc e' k5)
          obtain ⟨q', hq', hqe⟩ := pos p e' this
          have := inj p' q' e' k3 hqe
          omega
        · omega
      subst hpq
      rw [hq] at he
      cases he
      have hc : eff.contains i = true := by simpa using hee
      rw [dropS q i hq, WRun, hc] at g9
      simp only [cond_true] at g9
      obtain ⟨o', ho', hop⟩ := g9
      rw [ho] at ho'
      cases ho'
      have hop' := OpG_congr (a' := a1) (hpl i hee o ho) (by rw [hsz, g6.size]) (fun t ht => by rw [hslot t ht, slotB vals b q i o g6 hq ho t ht]) hop
      refine hop'.mono ?_
      rintro v w' ⟨hDw, hw⟩
      have hni := notin q i hq
      have hag : ∀ j ∈ l.take q, updV vals i v j = vals j := fun j hj => by
        have : j ≠ i := fun e => hni (e ▸ hj)
        simp [updV, this]
      have hb' := g6.put (v := v) h1 (lop q i hq) hni
      rw [← takeS q i hq] at hb'
      have hdo : o.dst = dstAt ops i := by simp [dstAt, ho]
      rw [hdo] at hw
      obtain ⟨p', vals', b', k1, k2, k3, k4, k5, k6, k7, k8⟩ := absorb (l.length - (q + 1)) (q + 1) (updV vals i v) _ w' rfl (by omega) hb' (fun j hj hje => by
        rw [takeS q i hq] at hj
        rcases List.mem_append.1 hj with hj | hj
        · exact readmono vals _ q hag j hj (g7 j hj hje)
        · simp at hj; subst hj; exact absurd hee hje) hw
      have mem1 : ∀ j, j ∈ l.take (q + 1) → j ∈ l.take p' := fun j hj => by
        obtain ⟨z, hz, hzj⟩ := pos (q + 1) j hj
        exact List.mem_of_getElem? (i := z) (by rw [List.getElem?_take, if_pos (by omega)]; exact hzj)
      have iin : i ∈ l.take (q + 1) := by rw [takeS q i hq]; simp
      refine ⟨p', vals', b', k2, fun j hj => ?_, fun e he hep => ?_, fun j hj => ?_, hDw, k4, k5, k6, k7⟩
      · rcases Bool.or_eq_true _ _ ▸ hj with hj | hj
        · exact mem1 j (by rw [takeS q i hq]; exact List.mem_append_left _ (g2 j hj))
        · rw [Nat.beq_eq] at hj; subst hj; exact mem1 j iin
      · have := k8 e he hep
        rw [takeS q i hq] at this
        rcases List.mem_append.1 this with h' | h'
        · simp [g3 e he h']
        · simp at h'; subst h'; simp
      · rcases Bool.or_eq_true _ _ ▸ hj with hj | hj
        · have hjl := g2 j hj
          have hji : j ≠ i := fun e => hni (e ▸ hjl)
          rw [k3 j (by rw [takeS q i hq]; exact List.mem_append_left _ hjl), hag j hjl]
          simp [updV, hji, g4 j hj]
        · rw [Nat.beq_eq] at hj
          subst hj
          rw [k3 j iin]
          simp [updV]
  · intro S S' σ w1 hSS hG
    have : S = S' := funext hSS
    rw [← this]; exact hG
  · obtain ⟨p', vals', b', k1, k2, k3, k4, k5, k6, k7, k8⟩ := absorb l.length 0 (fun _ => undef) a _ (by simp) (Nat.zero_le _) ⟨hN, rfl, fun t => by simp [lastW]⟩ (fun i hi => by simp at hi) (by simpa using h)
    exact ⟨p', vals', b', k2, fun i hi => by simp at hi, fun e he hep => by have := k8 e he hep; simp at this, fun i hi => by simp at hi, hD, k4, k5, k6, k7⟩
  · intro a' w' σ hNa hdf hG hslots
    obtain ⟨p, vals, b, g1, g2, g3, g4, g5, g6, g7, g8, g9⟩ := hG
    have hpl : p = l.length := by
      rcases Nat.lt_or_ge p l.length with h' | h'
      · obtain ⟨e, he⟩ : ∃ e, l[p]? = some e := ⟨_, List.getElem?_eq_getElem h'⟩
        have hem := hlt e (List.mem_of_getElem? he)
        exact absurd (g2 e (Nat.blt_eq.mpr hem)) (notin p e he)
      · omega
    subst hpl
    rw [List.drop_length, WRun] at g9
    have hab : a' = b := by
      have ht : a'.tmps = b.tmps := by
        refine Array.ext (by rw [hNa, g6.size]) (fun t ht1 ht2 => ?_)
        have e1 := hslots t
        have e2 := g6.slot t
        have hsl : slotOf ops a σ m t = (match lastW ops (l.take l.length) t with | some j => vals j | none => a.tmps.getD t undef) := by
          rw [List.take_length]
          have key : lastW ops l t = srcOf ops m t := by
            cases hs : srcOf ops m t with
            | some j =>
              obtain ⟨hjm, hdj, _⟩ := srcOf_some hs
              have := List.all_eq_true.1 c6 j (List.mem_range.2 hjm)
              rw [hdj] at this
              rw [← hs]
              simpa using this
            | none =>
              cases hl : lastW ops l t with
              | none => rfl
              | some j =>
                obtain ⟨hjl, hdj⟩ := lastW_mem hl
                exact absurd hdj (srcOf_none hs j (hlt j hjl))
          rw [key]
          unfold slotOf
          cases hs : srcOf ops m t with
          | none => rfl
          | some j => exact g4 j (Nat.blt_eq.mpr (srcOf_some hs).1)
        rw [hsl, ← e2] at e1
        rw [Array.getD_eq_getD_getElem?, Array.getD_eq_getD_getElem?, Array.getElem?_eq_getElem ht1, Array.getElem?_eq_getElem ht2] at e1
        simpa using e1
      cases a'; cases b
      simp only at ht
      subst ht
      have := hdf.trans g6.dfs.symm
      simp only at this
      rw [this]
    rw [hab]; exact g9
end

/-! ### Reading in such an order -/
def evalL (P : Program) (ops : Array Oper) : List Nat → List (Nat × En) → List Value → Option (List (Nat × En) × List Ob)
  | [], E, vs => match vs with | [] => some (E, []) | _ => none
  | i :: l, E, vs =>
    match ops[i]? with
    | none => none
    | some o =>
      match evalOp P ops E o vs with
      | none => none
      | some (e, ob, vs') =>
        bif dstFree E o.dst e then
          match evalL P ops l (putE E o.dst e) vs' with
          | none => none
          | some (E', obs) => some (E', ob ++ obs)
        else none
structure EndsL (P : Program) (ops : Array Oper) (rs : List Nat) (M M' : List (Nat × Value)) (obs : List Ob) : Prop where
  eq : ((evalL P ops rs (ofM M) (obs.map Ob.v)).map fun x => (M'.map (fun p => lookE x.1 p.1), x.2)) = some (M'.map (fun p => some ⟨[], p.2⟩), obs)
section
variable {P : Program} {r : Option Nat} {ops : Array Oper} {K : Act → World → Prop} {D : World → Prop} {N : Nat} {eff : List Nat} {ds : List Deferred} {M M' : List (Nat × Value)} {a : Act} {w : World} {obs : List Ob}
theorem evalL_run (hdst : dstOk ops N = true) {rest : List Nat} : ∀ (rs : List Nat) (E E' : List (Nat × En)) (vs : List Value) (obs : List Ob) (a : Act), evalL P ops rs E vs = some (E', obs) → CohE E → Obs P (fun a b => b = a) D obs → rs.all (fun i => !eff.contains i) = true →
    a.tmps.size = N → EnvOk (toA E) a w → (∀ a', a'.tmps.size = N → a'.defers = a.defers → EnvOk (toA E') a' w → WRun P r ops D eff K rest a' w) → WRun P r ops D eff K (rs ++ rest) a w := by
  intro rs
  induction rs with
  | nil =>
    intro E E' vs obs a h _ _ _ hN hE next
    cases vs with
    | nil => simp [evalL] at h; rw [h.1] at hE; exact next a hN rfl hE
    | cons => simp [evalL] at h
  | cons i rs ih =>
    intro E E' vs obs a h hc hob hne hN hE next
    simp only [evalL] at h
    cases ho : ops[i]? with
    | none => rw [ho] at h; simp at h
    | some o =>
      rw [ho] at h
      simp only at h
      cases hev : evalOp P ops E o vs with
      | none => rw [hev] at h; simp at h
      | some x =>
        obtain ⟨e, ob, vs'⟩ := x
        rw [hev] at h
        simp only at h
        cases hf : dstFree E o.dst e with
        | false => rw [hf] at h; simp at h
        | true =>
          rw [hf] at h
          simp only [cond_true] at h
          cases hr : evalL P ops rs (putE E o.dst e) vs' with
          | none => rw [hr] at h; simp at h
          | some y =>
            obtain ⟨E1, obs1⟩ := y
            rw [hr] at h
            simp at h
            obtain ⟨rfl, rfl⟩ := h
            rw [Obs.append] at hob
            obtain ⟨h1, h2⟩ := evalOp_spec (r := r) trans_eq hc hev hob.1
            rw [List.all_cons, Bool.and_eq_true] at hne
            have hni : eff.contains i = false := by simpa using hne.1
            have hd : dstAt ops i = o.dst := by simp [dstAt, ho]
            rw [List.cons_append, WRun, hni]
            simp only [cond_false]
            refine ⟨e.val, ⟨o, ho, fun a' w' hs hw' => ?_⟩, ?_⟩
            · refine (h2 a' w' hw' (fun t ht ψ hl => ?_)).mono (fun v w'' hh => ⟨hh.2, hh.1⟩)
              rw [hs t ht]
              have := hE t ψ hl
              rw [lookA_toA] at hl
              cases hle : lookE E t with
              | none => rw [hle] at hl; simp at hl
              | some e' => rw [hle] at hl; simp at hl; subst hl; exact this
            · rw [hd]
              refine ih _ _ _ _ _ hr (coh_put hc h1 hf) hob.2 hne.2 (by rw [put_size]; exact hN) ?_ (fun a' hN' hd' hE' => next a' hN' (hd'.trans (put_defers _ _ _)) hE')
              rw [toA_put]
              exact hE.push (T := fun a b => b = a) (stab_toA _ _) rfl (fun t ht => hN ▸ dstOk_spec hdst ho ht) rfl
theorem runC {rest : List Nat} (rs : List Nat) (M' : List (Nat × Value)) (hF : Fr N ds M a) (hdst : dstOk ops N = true) (hne : rs.all (fun i => !eff.contains i) = true) (hob : Obs P (fun a b => b = a) D obs) (h : EndsL P ops rs M M' obs)
    (next : ∀ a', Fr N ds M' a' → WRun P r ops D eff K rest a' w) : WRun P r ops D eff K (rs ++ rest) a w := by
  have h := h.eq
  cases hev : evalL P ops rs (ofM M) (obs.map Ob.v) with
  | none => rw [hev] at h; simp at h
  | some x =>
    obtain ⟨E', obs'⟩ := x
    rw [hev] at h
    simp only [Option.map_some, Option.some.injEq, Prod.mk.injEq] at h
    obtain ⟨h1, rfl⟩ := h
    refine evalL_run hdst rs _ _ _ _ a hev (coh_ofM M) hob hne hF.size (envOk_ofM hF w) ?_
    intro a' hN hd hE
    refine next a' ⟨hN, hd.trans hF.defers, fun p hp => ?_⟩
    have hlk : lookE E' p.1 = some ⟨[], p.2⟩ := List.map_inj_left.1 h1 p hp
    have := hE p.1 (fun v _ => v = (⟨[], p.2⟩ : En).val) (by rw [lookA_toA, hlk]; rfl)
    simpa [En.val, condsOk] using this
theorem SK.wr {rest : List Nat} {i : Nat} (hi : eff.contains i = true) (h : SK P r ops i (fun a' w' => D w' ∧ WRun P r ops D eff K rest a' w') a w) : WRun P r ops D eff K (i :: rest) a w := by
  rw [WRun, hi]; exact h
theorem WRun.fin (h : K a w) : WRun P r ops D eff K [] a w := h
end
end Go.Eng
