/- The engine, part 17: a region in whatever order, all orders of its effects told. -/
import Derived.Test.YtejffembnkojjaaEngD5
namespace Go.Eng
open Go Go.RowKit

def ancB (ops : Array Oper) (e i : Nat) : Bool := ((masks ops.toList []).getD i 0).testBit e
/-- The readings that come free by the last of the effects that are done. -/
def newReads (ops : Array Oper) (m : Nat) (eff done : List Nat) : List Nat :=
  (List.range m).filter fun i => !eff.contains i && (eff.all fun e => !ancB ops e i || done.contains e) && (match done.getLast? with | some e => ancB ops e i | none => true)
def nexts (ops : Array Oper) (eff done : List Nat) : List Nat := eff.filter fun e => !done.contains e && eff.all fun d => !ancB ops d e || done.contains d
def WT (P : Program) (r : Option Nat) (ops : Array Oper) (D : World → Prop) (m : Nat) (eff : List Nat) (K : Act → World → Prop) : Nat → List Nat → Act → World → Prop
  | 0, done, a, w => WRun P r ops D [] K (newReads ops m eff done) a w
  | n + 1, done, a, w => WRun P r ops D [] (fun a w => ∀ e ∈ nexts ops eff done, SK P r ops e (fun a' w' => D w' ∧ WT P r ops D m eff K n (done ++ [e]) a' w') a w) (newReads ops m eff done) a w
def looksOk (ops : Array Oper) (pre : List Nat) (i : Nat) : Bool := match ops[i]? with | some o => (o.looksAt ops).all fun t => lastW ops pre t == srcOf ops i t | none => false
def treeOk (ops : Array Oper) (m : Nat) (eff : List Nat) : Nat → List Nat → List Nat → Bool
  | 0, done, pre => srcsOk ops pre (newReads ops m eff done) && nodupB (pre ++ newReads ops m eff done) && (List.range m).all (fun i => (pre ++ newReads ops m eff done).contains i) &&
      ((List.range m).all fun j => match dstAt ops j with | some t => lastW ops (pre ++ newReads ops m eff done) t == srcOf ops m t | none => true)
  | n + 1, done, pre => srcsOk ops pre (newReads ops m eff done) && nodupB (pre ++ newReads ops m eff done) &&
      (nexts ops eff done).all fun e => looksOk ops (pre ++ newReads ops m eff done) e && !(pre ++ newReads ops m eff done).contains e && treeOk ops m eff n (done ++ [e]) (pre ++ newReads ops m eff done ++ [e])
section
variable {P : Program} {r : Option Nat} {ops : Array Oper} {Q : Exit → Act → World → Prop} {K : Act → World → Prop} {D : World → Prop} {N : Nat} {eff : List Nat}
theorem nodup_len : ∀ (l k : List Nat), l.Nodup → (∀ x ∈ l, x ∈ k) → l.length ≤ k.length := by
  intro l
  induction l with
  | nil => intro k _ _; simp
  | cons x l ih =>
    intro k hn hs
    have hx := hs x (List.mem_cons_self ..)
    have hn' := List.nodup_cons.1 hn
    have := ih (k.erase x) hn'.2 (fun y hy => by
      have hne : y ≠ x := fun e => hn'.1 (e ▸ hy)
      exact (List.mem_erase_of_ne hne).2 (hs y (List.mem_cons_of_mem _ hy)))
    rw [List.length_erase_of_mem hx] at this
    have hpos : 0 < k.length := List.length_pos_of_mem hx
    simp; omega
theorem nodup_all {l k : List Nat} (hn : l.Nodup) (hs : ∀ x ∈ l, x ∈ k) (hl : k.length ≤ l.length) : ∀ x ∈ k, x ∈ l := by
  intro x hx
  by_cases h : x ∈ l
  · exact h
  · have := nodup_len (x :: l) k (List.nodup_cons.2 ⟨h, hn⟩) (fun y hy => by
      rcases List.mem_cons.1 hy with rfl | hy
      · exact hx
      · exact hs y hy)
    simp at this
    omega
theorem ancB_spec {e i : Nat} (h : ancB ops e i = true) : Anc ops e i := testBit_anc h
theorem srcsOk_cons {pre : List Nat} {i : Nat} {l : List Nat} (h : srcsOk ops pre (i :: l) = true) : looksOk ops pre i = true ∧ srcsOk ops (pre ++ [i]) l = true := by
  rw [srcsOk, Bool.and_eq_true] at h
  exact h
theorem looksOk_spec {pre : List Nat} {i : Nat} {o : Oper} (h : looksOk ops pre i = true) (ho : ops[i]? = some o) : ∀ t ∈ o.looksAt ops, lastW ops pre t = srcOf ops i t := by
  unfold looksOk at h
  rw [ho] at h
  intro t ht
  simpa using List.all_eq_true.1 h t ht
theorem nodup_append_notin {l : List Nat} {i : Nat} {k : List Nat} (h : (l ++ i :: k).Nodup) : i ∉ l := by
  intro hi
  have := (List.nodup_append.1 h).2.2 i hi i (List.mem_cons_self ..)
  exact this rfl
/-- What is known once the operations of l, in this order, have been told: the readings among them hold for good. -/
def ReadV (P : Program) (r : Option Nat) (ops : Array Oper) (D : World → Prop) (a : Act) (vals : Nat → Value) (i : Nat) : Prop :=
  ∃ o, ops[i]? = some o ∧ ∀ a' w', (∀ t ∈ o.looksAt ops, a'.tmps.getD t undef = slotOf ops a vals i t) → D w' → OpG P r ops o a' w' (fun v' w'' => v' = vals i ∧ w'' = w')
/-- The sources of all that was told were told before it. -/
def Told (ops : Array Oper) (l : List Nat) : Prop := ∀ pre i post, l = pre ++ i :: post → looksOk ops pre i = true
theorem Told.snoc {l : List Nat} {i : Nat} (h : Told ops l) (hi : looksOk ops l i = true) : Told ops (l ++ [i]) := by
  intro pre j post e
  rcases List.eq_nil_or_concat post with rfl | ⟨q, x, rfl⟩
  · have := List.append_inj' e (by simp)
    obtain ⟨e1, e2⟩ := this
    cases e2
    rw [← e1]; exact hi
  · rw [List.concat_eq_append, ← List.cons_append, ← List.append_assoc] at e
    obtain ⟨e1, _⟩ := List.append_inj' e (by simp)
    exact h pre j q e1
theorem readV_mono {a : Act} {l : List Nat} (ht : Told ops l) {vals vals' : Nat → Value} (hv : ∀ i ∈ l, vals' i = vals i) {i : Nat} (hi : i ∈ l) (h : ReadV P r ops D a vals i) : ReadV P r ops D a vals' i := by
  obtain ⟨o, ho, h⟩ := h
  obtain ⟨pre, post, e⟩ := List.append_of_mem hi
  refine ⟨o, ho, fun a' w' hs hw => ?_⟩
  rw [hv i hi]
  refine h a' w' (fun t htt => ?_) hw
  rw [hs t htt]
  unfold slotOf
  have hl := looksOk_spec (ht pre i post e) ho t htt
  cases hs : srcOf ops i t with
  | none => rfl
  | some j =>
    rw [hs] at hl
    exact hv j (by rw [e]; exact List.mem_append_left _ (lastW_mem hl).1)
/-- Readings are told, one after the other. -/
theorem absorbR {l0 : List Nat} {a : Act} {K : Act → World → Prop} {w : World} (hdst : dstOk ops N = true) (hsz : ∀ i ∈ l0, i < ops.size) : ∀ (rs : List Nat) (pre : List Nat) (vals : Nat → Value) (b : Act), (∀ i ∈ rs, i ∈ l0) → srcsOk ops pre rs = true → (pre ++ rs).Nodup → Told ops pre →
    FIs ops N a vals pre b → (∀ i ∈ pre, i ∉ eff → ReadV P r ops D a vals i) → (∀ i ∈ rs, i ∉ eff) → WRun P r ops D [] K rs b w →
    ∃ vals' b', (∀ i ∈ pre, vals' i = vals i) ∧ FIs ops N a vals' (pre ++ rs) b' ∧ (∀ i ∈ pre ++ rs, i ∉ eff → ReadV P r ops D a vals' i) ∧ Told ops (pre ++ rs) ∧ K b' w := by
  intro rs
  induction rs with
  | nil => intro pre vals b _ _ _ ht hb hr _ hw; exact ⟨vals, b, fun _ _ => rfl, by simpa using hb, by simpa using hr, by simpa using ht, hw⟩
  | cons i rs ih =>
    intro pre vals b hl0 hs hnd ht hb hr hne hw
    obtain ⟨h1, h2⟩ := srcsOk_cons hs
    rw [WRun] at hw
    simp only [List.contains_nil, cond_false] at hw
    obtain ⟨v, hrd, hw⟩ := hw
    have hni := nodup_append_notin hnd
    have hag : ∀ j ∈ pre, updV vals i v j = vals j := fun j hj => by
      have : j ≠ i := fun e => hni (e ▸ hj)
      simp [updV, this]
    have hb' := hb.put (v := v) hdst (hsz i (hl0 i (List.mem_cons_self ..))) hni
    have ht' := ht.snoc h1
    obtain ⟨vals', b', k1, k2, k3, k4, k5⟩ := ih (pre ++ [i]) (updV vals i v) _ (fun j hj => hl0 j (List.mem_cons_of_mem _ hj)) h2 (by simpa using hnd) ht' hb' (fun j hj hje => by
      rcases List.mem_append.1 hj with hj | hj
      · exact readV_mono ht hag hj (hr j hj hje)
      · simp at hj
        subst hj
        obtain ⟨o, ho, hro⟩ := hrd
        refine ⟨o, ho, fun a' w' hs hw' => ?_⟩
        have : updV vals j v j = v := by simp [updV]
        rw [this]
        refine hro a' w' (fun t htt => ?_) hw'
        rw [hs t htt, hb.slot t]
        unfold slotOf
        have hl := looksOk_spec h1 ho t htt
        rw [hl]
        cases hs : srcOf ops j t with
        | none => rfl
        | some q =>
          rw [hs] at hl
          exact hag q (lastW_mem hl).1) (fun j hj => hne j (List.mem_cons_of_mem _ hj)) hw
    refine ⟨vals', b', fun j hj => ?_, by simpa using k2, by simpa using k3, by simpa using k4, k5⟩
    rw [k1 j (List.mem_append_left _ hj), hag j hj]
theorem region_tree {id : Nat} (m : Nat) (eff : List Nat) {a : Act} {w : World} (hmo : P.follows .mixedOrders = true) (hck : (dstOk ops N && ordOk ops m && tailOk ops m && edgesOk ops && Nat.ble m ops.size && treeOk ops m eff eff.length [] [] && eff.all (fun e => Nat.blt e m && (match ops[e]? with | some o => plainOp o.op | none => false)) && nodupB eff) = true) (hN : a.tmps.size = N)
    (hD : D { w with drawn := w.drawn + 1 }) (h : WT P r ops D m eff (fun a w => WI P r ops Q m a w) eff.length [] a { w with drawn := w.drawn + 1 }) : WP P r (.region id ops true) Q a w := by
  simp only [Bool.and_eq_true] at hck
  obtain ⟨⟨⟨⟨⟨⟨⟨h1, h2⟩, h3⟩, h4⟩, h5⟩, h6⟩, h7⟩, h8⟩ := hck
  have hmn := Nat.le_of_ble_eq_true h5
  have heff : ∀ e ∈ eff, e < m ∧ ∀ o, ops[e]? = some o → plainOp o.op = true := fun e he => by
    have := List.all_eq_true.1 h7 e he
    rw [Bool.and_eq_true] at this
    exact ⟨Nat.blt_eq.mp this.1, fun o ho => by have := this.2; rw [ho] at this; exact this⟩
  have hnde := nodupB_spec h8
  have newR : ∀ done i, i ∈ newReads ops m eff done → i < m ∧ i ∉ eff := by
    intro done i hi
    unfold newReads at hi
    have := List.mem_filter.1 hi
    simp only [Bool.and_eq_true] at this
    exact ⟨List.mem_range.1 this.1, by simpa using this.2.1.1⟩
  -- the state behind the effects done, in this order
  let St : Nat → List Nat → List Nat → (Nat → Value) → Act → World → Prop := fun n done pre vals b w =>
    FIs ops N a vals pre b ∧ (∀ i ∈ pre, i ∉ eff → ReadV P r ops D a vals i) ∧ Told ops pre ∧ pre.Nodup ∧ (∀ i ∈ pre, i < m) ∧ (∀ e ∈ eff, e ∈ pre ↔ e ∈ done) ∧ (∀ e ∈ done, e ∈ eff) ∧ done.Nodup ∧ done.length + n = eff.length ∧
    (∀ i, i < m → i ∉ eff → (∀ e ∈ eff, ancB ops e i = true → e ∈ done) → i ∈ pre) ∧
    (match n with
      | 0 => WI P r ops Q m b w ∧ ∀ t, lastW ops pre t = srcOf ops m t
      | n + 1 => (∀ e ∈ nexts ops eff done, SK P r ops e (fun a' w' => D w' ∧ WT P r ops D m eff (fun a w => WI P r ops Q m a w) n (done ++ [e]) a' w') b w) ∧ ∀ e ∈ nexts ops eff done, looksOk ops pre e = true ∧ e ∉ pre ∧ treeOk ops m eff n (done ++ [e]) (pre ++ [e]) = true)
  have enter : ∀ n done pre vals b w, FIs ops N a vals pre b → (∀ i ∈ pre, i ∉ eff → ReadV P r ops D a vals i) → Told ops pre → (∀ i ∈ pre, i < m) → (∀ e ∈ eff, e ∈ pre ↔ e ∈ done) → (∀ e ∈ done, e ∈ eff) → done.Nodup → done.length + n = eff.length →
      (∀ i, i < m → i ∉ eff → (∀ e ∈ eff, ancB ops e i = true → e ∈ done) → i ∈ pre ++ newReads ops m eff done) → treeOk ops m eff n done pre = true → WT P r ops D m eff (fun a w => WI P r ops Q m a w) n done b w →
      ∃ vals' b', (∀ i ∈ pre, vals' i = vals i) ∧ St n done (pre ++ newReads ops m eff done) vals' b' w := by
    intro n done pre vals b w hb hr ht hlt hed hde hdn hdl hall hok hw
    have hne : ∀ i ∈ newReads ops m eff done, i ∉ eff := fun i hi => (newR done i hi).2
    have hl0 : ∀ i ∈ newReads ops m eff done, i < ops.size := fun i hi => by have := (newR done i hi).1; omega
    have hlt' : ∀ i ∈ pre ++ newReads ops m eff done, i < m := fun i hi => by
      rcases List.mem_append.1 hi with hi | hi
      · exact hlt i hi
      · exact (newR done i hi).1
    have hed' : ∀ e ∈ eff, e ∈ pre ++ newReads ops m eff done ↔ e ∈ done := fun e he => by
      rw [List.mem_append, hed e he]
      exact ⟨fun h => h.elim (fun h => h) (fun h => absurd he (hne e h)), .inl⟩
    cases n with
    | zero =>
      simp only [treeOk, Bool.and_eq_true] at hok
      obtain ⟨⟨⟨o1, o2⟩, o3⟩, o4⟩ := hok
      have hnd := nodupB_spec o2
      rw [WT] at hw
      obtain ⟨vals', b', k1, k2, k3, k4, k5⟩ := absorbR (l0 := newReads ops m eff done) (eff := eff) h1 hl0 _ pre vals b (fun _ h => h) o1 hnd ht hb hr hne hw
      refine ⟨vals', b', k1, k2, k3, k4, hnd, hlt', hed', hde, hdn, hdl, hall, k5, fun t => ?_⟩
      cases hs : srcOf ops m t with
      | some j =>
        obtain ⟨hjm, hdj, _⟩ := srcOf_some hs
        have := List.all_eq_true.1 o4 j (List.mem_range.2 hjm)
        rw [hdj] at this
        rw [← hs]
        simpa using this
      | none =>
        cases hl : lastW ops (pre ++ newReads ops m eff done) t with
        | none => rfl
        | some j =>
          obtain ⟨hjl, hdj⟩ := lastW_mem hl
          exact absurd hdj (srcOf_none hs j (hlt' j hjl))
    | succ n =>
      simp only [treeOk, Bool.and_eq_true] at hok
      obtain ⟨⟨o1, o2⟩, o3⟩ := hok
      have hnd := nodupB_spec o2
      rw [WT] at hw
      obtain ⟨vals', b', k1, k2, k3, k4, k5⟩ := absorbR (l0 := newReads ops m eff done) (eff := eff) h1 hl0 _ pre vals b (fun _ h => h) o1 hnd ht hb hr hne hw
      refine ⟨vals', b', k1, k2, k3, k4, hnd, hlt', hed', hde, hdn, hdl, hall, k5, fun e he => ?_⟩
      have := List.all_eq_true.1 o3 e he
      simp only [Bool.and_eq_true] at this
      exact ⟨this.1.1, by simpa using this.1.2, this.2⟩
  let G : (Nat → Bool) → (Nat → Value) → World → Prop := fun S σ w => ∃ n done pre vals b, St n done pre vals b w ∧ D w ∧ (∀ i, S i = true → i ∈ pre) ∧ (∀ e ∈ done, S e = true) ∧ (∀ i, S i = true → σ i = vals i)
  refine region_anyG (N := N) (m := m) (G := G) hmo h1 h2 h3 h4 hmn ?_ hN ?_ (fun _ => undef) ?_ ?_
  · intro S σ a1 w1 i o him ho hSi hanc hcl hlow hsz hdf hG hlook
    obtain ⟨n, done, pre, vals, b, ⟨s1, s2, s3, s4, s5, s6, s7, s8, s9, s10, s11⟩, g1, g2, g3, g4⟩ := hG
    have hsrc : ∀ t ∈ o.looksAt ops, ∀ j, srcOf ops i t = some j → S j = true := by
      intro t ht j hj
      obtain ⟨hji, hdj, _⟩ := srcOf_some hj
      obtain ⟨xo, hxo, hxd⟩ := dstAt_oper hdj
      rcases ordOk_spec h2 hji him hxo ho with hap | hA
      · exact absurd ht ((Oper.apart_spec hap).1 t hxd)
      · exact hanc j hA
    have hslot : ∀ t ∈ o.looksAt ops, a1.tmps.getD t undef = slotOf ops a vals i t := by
      intro t ht
      rw [hlook t ht]
      unfold slotOf
      cases hl : srcOf ops i t with
      | none => rfl
      | some j => exact g4 j (hsrc t ht j hl)
    by_cases hie : i ∈ eff
    · -- an effect: all effects it comes behind are done
      have hdone : ∀ e ∈ eff, ancB ops e i = true → e ∈ done := fun e he hA => (s6 e he).1 (g2 e (hanc e (ancB_spec hA)))
      have hid : i ∉ done := fun hd => by have := g3 i hd; rw [hSi] at this; cases this
      have hnx : i ∈ nexts ops eff done := by
        unfold nexts
        refine List.mem_filter.2 ⟨hie, ?_⟩
        rw [Bool.and_eq_true]
        refine ⟨by simpa using hid, List.all_eq_true.2 fun d hd => ?_⟩
        cases hA : ancB ops d i with
        | false => simp
        | true => simpa using hdone d hd hA
      cases n with
      | zero =>
        exfalso
        have hp : done.length = eff.length := by omega
        have hsub : ∀ x ∈ done, x ∈ eff := s7
        -- done has all of eff
        have : i ∈ done := by
          exact nodup_all s8 hsub (by omega) i hie
        exact hid this
      | succ n =>
        obtain ⟨hstep, hlk⟩ := s11
        obtain ⟨l1, l2, l3⟩ := hlk i hnx
        obtain ⟨o', ho', hop⟩ := hstep i hnx
        rw [ho] at ho'
        cases ho'
        have hop' := OpG_congr (a' := a1) ((heff i hie).2 o ho) (by rw [hsz, s1.size]) (fun t ht => by
          rw [hslot t ht, s1.slot t, looksOk_spec l1 ho t ht]; rfl) hop
        refine hop'.mono ?_
        rintro v w' ⟨hDw, hw⟩
        have hag : ∀ j ∈ pre, updV vals i v j = vals j := fun j hj => by
          have : j ≠ i := fun e => l2 (e ▸ hj)
          simp [updV, this]
        have hb' := s1.put (v := v) h1 (by omega) l2
        have hdo : o.dst = dstAt ops i := by simp [dstAt, ho]
        rw [hdo] at hw
        obtain ⟨vals', b', k1, k2⟩ := enter n (done ++ [i]) (pre ++ [i]) (updV vals i v) _ w' hb' (fun j hj hje => by
            rcases List.mem_append.1 hj with hj | hj
            · exact readV_mono s3 hag hj (s2 j hj hje)
            · simp at hj; subst hj; exact absurd hie hje) (s3.snoc l1) (fun j hj => by
            rcases List.mem_append.1 hj with hj | hj
            · exact s5 j hj
            · simp at hj; subst hj; exact him) (fun e he => by rw [List.mem_append, List.mem_append, s6 e he]) (fun e he => by
            rcases List.mem_append.1 he with he | he
            · exact s7 e he
            · simp at he; subst he; exact hie) (List.nodup_append.2 ⟨s8, by simp, fun x hx y hy => by simp at hy; subst hy; exact fun e => hid (e ▸ hx)⟩) (by simp; omega) (fun j hj hje hAj => by
            by_cases hold : ∀ e ∈ eff, ancB ops e j = true → e ∈ done
            · exact List.mem_append_left _ (List.mem_append_left _ (s10 j hj hje hold))
            · refine List.mem_append_right _ ?_
              unfold newReads
              refine List.mem_filter.2 ⟨List.mem_range.2 hj, ?_⟩
              have hij : ancB ops i j = true := by
                simp only [Classical.not_forall] at hold
                obtain ⟨e, he, hAe, hed⟩ := hold
                rcases List.mem_append.1 (hAj e he hAe) with h' | h'
                · exact absurd h' hed
                · simp at h'; subst h'; exact hAe
              simp only [Bool.and_eq_true]
              refine ⟨⟨by simpa using hje, List.all_eq_true.2 fun e he => ?_⟩, by simpa using hij⟩
              cases hAe : ancB ops e j with
              | false => simp
              | true => simpa using hAj e he hAe) l3 hw
        refine ⟨n, done ++ [i], _, vals', b', k2, hDw, fun j hj => ?_, fun e he => ?_, fun j hj => ?_⟩
        · rcases Bool.or_eq_true _ _ ▸ hj with hj | hj
          · exact List.mem_append_left _ (List.mem_append_left _ (g2 j hj))
          · rw [Nat.beq_eq] at hj; subst hj; exact List.mem_append_left _ (by simp)
        · rcases List.mem_append.1 he with he | he
          · simp [g3 e he]
          · simp at he; subst he; simp
        · rcases Bool.or_eq_true _ _ ▸ hj with hj | hj
          · have hjl := g2 j hj
            have hji : j ≠ i := fun e => l2 (e ▸ hjl)
            rw [k1 j (List.mem_append_left _ hjl), hag j hjl]
            simp [updV, hji, g4 j hj]
          · rw [Nat.beq_eq] at hj
            subst hj
            rw [k1 j (by simp)]
            simp [updV]
    · have hip : i ∈ pre := s10 i him hie (fun e he hA => (s6 e he).1 (g2 e (hanc e (ancB_spec hA))))
      obtain ⟨o', ho', hr⟩ := s2 i hip hie
      rw [ho] at ho'
      cases ho'
      refine (hr a1 w1 hslot g1).mono ?_
      rintro v w' ⟨rfl, rfl⟩
      refine ⟨n, done, pre, vals, b, ⟨s1, s2, s3, s4, s5, s6, s7, s8, s9, s10, s11⟩, g1, fun j hj => ?_, fun e he => by simp [g3 e he], fun j hj => ?_⟩
      · rcases Bool.or_eq_true _ _ ▸ hj with hj | hj
        · exact g2 j hj
        · rw [Nat.beq_eq] at hj; subst hj; exact hip
      · rcases Bool.or_eq_true _ _ ▸ hj with hj | hj
        · by_cases hji : j = i
          · subst hji; simp [updV]
          · simp [updV, hji, g4 j hj]
        · rw [Nat.beq_eq] at hj; subst hj; simp [updV]
  · intro S S' σ w1 hSS hG
    have : S = S' := funext hSS
    rw [← this]; exact hG
  · obtain ⟨vals', b', k1, k2⟩ := enter eff.length [] [] (fun _ => undef) a _ ⟨hN, rfl, fun t => by simp [lastW]⟩ (fun i hi => by simp at hi) (fun pre i post e => by simp at e) (fun i hi => by simp at hi) (fun e he => by simp) (fun e he => by simp at he) List.nodup_nil (by simp) (fun i hi hie hA => by
        refine List.mem_append_right _ (List.mem_filter.2 ⟨List.mem_range.2 hi, ?_⟩)
        simp only [Bool.and_eq_true]
        refine ⟨⟨by simpa using hie, List.all_eq_true.2 fun e he => ?_⟩, rfl⟩
        cases hAe : ancB ops e i with
        | false => simp
        | true => exact absurd (hA e he hAe) (by simp)) h6 h
    exact ⟨_, _, _, vals', b', k2, hD, fun i hi => by simp at hi, fun e he => by simp at he, fun i hi => by simp at hi⟩
  · intro a' w' σ hNa hdf hG hslots
    obtain ⟨n, done, pre, vals, b, ⟨s1, s2, s3, s4, s5, s6, s7, s8, s9, s10, s11⟩, g1, g2, g3, g4⟩ := hG
    have hn : n = 0 := by
      have hsub : ∀ e ∈ eff, e ∈ done := fun e he => (s6 e he).1 (g2 e (Nat.blt_eq.mpr (heff e he).1))
      have := nodup_len eff done hnde hsub
      omega
    subst hn
    obtain ⟨hWI, hfin⟩ := s11
    have hab : a' = b := by
      have ht : a'.tmps = b.tmps := by
        refine Array.ext (by rw [hNa, s1.size]) (fun t ht1 ht2 => ?_)
        have e1 := hslots t
        have e2 := s1.slot t
        have hsl : slotOf ops a σ m t = (match lastW ops pre t with | some j => vals j | none => a.tmps.getD t undef) := by
          rw [hfin t]
          unfold slotOf
          cases hs : srcOf ops m t with
          | none => rfl
          | some j => exact g4 j (Nat.blt_eq.mpr (srcOf_some hs).1)
        replace e1 : a'.tmps.getD t undef = b.tmps.getD t undef := e1.trans (hsl.trans e2.symm)
        rw [Array.getD_eq_getD_getElem?, Array.getD_eq_getD_getElem?, Array.getElem?_eq_getElem ht1, Array.getElem?_eq_getElem ht2] at e1
        simpa using e1
      cases a'; cases b
      simp only at ht
      subst ht
      have := hdf.trans s1.dfs.symm
      simp only at this
      rw [this]
    rw [hab]; exact hWI
theorem WRun.mono {K K' : Act → World → Prop} (hK : ∀ a w, K a w → K' a w) : ∀ {l : List Nat} {a : Act} {w : World}, WRun P r ops D [] K l a w → WRun P r ops D [] K' l a w := by
  intro l
  induction l with
  | nil => intro a w h; exact hK a w h
  | cons i l ih =>
    intro a w h
    rw [WRun] at h ⊢
    simp only [List.contains_nil, cond_false] at h ⊢
    obtain ⟨v, h1, h2⟩ := h
    exact ⟨v, h1, ih h2⟩
theorem SK.mono {k : Nat} {K K' : Act → World → Prop} {a : Act} {w : World} (hK : ∀ a w, K a w → K' a w) (h : SK P r ops k K a w) : SK P r ops k K' a w := by
  obtain ⟨o, ho, h⟩ := h
  exact ⟨o, ho, h.mono fun _ _ => hK _ _⟩
theorem WT.mono {m : Nat} {K K' : Act → World → Prop} (hK : ∀ a w, K a w → K' a w) : ∀ {n : Nat} {done : List Nat} {a : Act} {w : World}, WT P r ops D m eff K n done a w → WT P r ops D m eff K' n done a w := by
  intro n
  induction n with
  | zero => intro done a w h; rw [WT] at h ⊢; exact WRun.mono hK h
  | succ n ih =>
    intro done a w h
    rw [WT] at h ⊢
    exact WRun.mono (fun a w h e he => (h e he).mono fun a w h => ⟨h.1, ih h.2⟩) h
theorem region_treeJ {id : Nat} (m : Nat) (eff : List Nat) (J : Act → World → Prop) {a : Act} {w : World} (hmo : P.follows .mixedOrders = true) (hck : (dstOk ops N && ordOk ops m && tailOk ops m && edgesOk ops && Nat.ble m ops.size && treeOk ops m eff eff.length [] [] && eff.all (fun e => Nat.blt e m && (match ops[e]? with | some o => plainOp o.op | none => false)) && nodupB eff) = true) (hN : a.tmps.size = N)
    (hD : D { w with drawn := w.drawn + 1 }) (h : WT P r ops D m eff J eff.length [] a { w with drawn := w.drawn + 1 }) (hJ : ∀ a w, J a w → WI P r ops Q m a w) : WP P r (.region id ops true) Q a w :=
  region_tree m eff hmo hck hN hD (WT.mono hJ h)
theorem WT.z {m : Nat} {done : List Nat} {a : Act} {w : World} (rs : List Nat) (hr : newReads ops m eff done = rs) (h : WRun P r ops D [] K rs a w) : WT P r ops D m eff K 0 done a w := by rw [WT, hr]; exact h
theorem WT.s {m n : Nat} {done : List Nat} {a : Act} {w : World} (rs es : List Nat) (hr : newReads ops m eff done = rs) (hx : nexts ops eff done = es)
    (h : WRun P r ops D [] (fun a w => ∀ e ∈ es, SK P r ops e (fun a' w' => D w' ∧ WT P r ops D m eff K n (done ++ [e]) a' w') a w) rs a w) : WT P r ops D m eff K (n + 1) done a w := by rw [WT, hr, hx]; exact h
theorem all_nil {p : Nat → Prop} : ∀ e ∈ ([] : List Nat), p e := fun e h => by simp at h
theorem all_cons {p : Nat → Prop} {x : Nat} {l : List Nat} (h : p x) (t : ∀ e ∈ l, p e) : ∀ e ∈ x :: l, p e := fun e he => by
  rcases List.mem_cons.1 he with rfl | he
  · exact h
  · exact t e he
theorem region_treeW {id : Nat} (m : Nat) (eff : List Nat) (J : Act → World → Prop) {a : Act} {w : World} (hmo : P.follows .mixedOrders = true) (hck : (dstOk ops N && ordOk ops m && tailOk ops m && edgesOk ops && Nat.ble m ops.size && treeOk ops m eff eff.length [] [] && eff.all (fun e => Nat.blt e m && (match ops[e]? with | some o => plainOp o.op | none => false)) && nodupB eff) = true) (hN : a.tmps.size = N)
    (h : ∀ w1, Ext w w1 → D w1 ∧ WT P r ops D m eff J eff.length [] a w1) (hJ : ∀ a w, J a w → WI P r ops Q m a w) : WP P r (.region id ops true) Q a w :=
  region_treeJ m eff J hmo hck hN (h _ (ext_drew w)).1 (h _ (ext_drew w)).2 hJ
theorem fn_enterW {f : FuncId} {fn : Func} {c : Code} {args : Array Value} {R : Ending → World → Prop} {w : World} (hf : P.funcs[f]? = some fn) (hb : fn.body = some c) (N : Nat) (M : List (Nat × Value)) (hN : fn.ntmps = N)
    (hsz : Nat.ble args.size N = true) (hM : M.map (fun p => (args ++ Array.replicate (N - args.size) undef).getD p.1 undef) = M.map Prod.snd) (h : ∀ a w1, w1 = w → Fr N [] M a → WP P none c (bodyPost P fn R) a w1) : Calls P f args w R :=
  fn_enter hf hb N M hN hsz hM fun a => h a w rfl
theorem obNo {T : World → World → Prop} {cs : List Cd} {s : Sem Value} {v : Value} (h : condsOk cs = false) : Ob.ok P T D (.run cs s v) := fun hk => by rw [h] at hk; cases hk
theorem obNoC {T : World → World → Prop} {cs : List Cd} {f : FuncId} {args : Array Value} {v : Value} (h : condsOk cs = false) : Ob.ok P T D (.call cs f args v) := fun hk => by rw [h] at hk; cases hk
theorem conds_no {cs : List Cd} {i : Nat} {c : Cd} (hi : cs[i]? = some c) (h : (c.p == c.want) = false) : condsOk cs = false := by
  cases hk : condsOk cs with
  | false => rfl
  | true =>
    have := condsOk_iff.1 hk c (List.mem_of_getElem? hi)
    rw [this] at h
    simp at h
end
end Go.Eng
