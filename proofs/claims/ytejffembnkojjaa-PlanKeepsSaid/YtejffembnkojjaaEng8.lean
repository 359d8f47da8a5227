/- The engine, part 8: a region in whatever order, with one chain of operations that make or write memory among others that only read. -/
import Derived.Test.YtejffembnkojjaaEng7
namespace Go.Eng
open Go Go.RowKit

/-- What is known of the slots before operation i, the chain's own left out. -/
def envC (P : Program) (ops : Array Oper) (ch : List Nat) (M : List (Nat × Value)) (vals : List Value) : Nat → Option (List (Nat × En) × List Ob × List Value)
  | 0 => some (ofM M, [], vals)
  | i + 1 =>
    match envC P ops ch M vals i with
    | none => none
    | some (E, obs, vs) =>
      match ops[i]? with
      | none => none
      | some o =>
        bif ch.contains i then
          bif dstFree E o.dst ⟨[], undef⟩ then some (match o.dst with | some d => E.filter (fun p => !Nat.beq p.1 d) | none => E, obs, vs) else none
        else
          match evalOp P ops E o vs with
          | none => none
          | some (e, ob, vs') => bif dstFree E o.dst e then some (putE E o.dst e, obs ++ ob, vs') else none
def idxIn : List Nat → Nat → Nat → Option Nat
  | [], _, _ => none
  | c :: l, q, j => bif Nat.beq c j then some q else idxIn l (q + 1) j
/-- The value of a slot before operation i, the chain's values given. -/
def slotC (ops : Array Oper) (ch : List Nat) (E : List (Nat × En)) (us : List Value) (i t : Nat) : Option Value :=
  match srcOf ops i t with
  | some j => match idxIn ch 0 j with
    | some q => us[q]?
    | none => match lookE E t with | some ⟨[], v⟩ => some v | _ => none
  | none => match lookE E t with | some ⟨[], v⟩ => some v | _ => none
def chainOk (ops : Array Oper) : List Nat → Bool
  | [] => true
  | [c] => Nat.blt c ops.size
  | c :: d :: l => Nat.blt c d && ((masks ops.toList []).getD d 0).testBit c && chainOk ops (d :: l)
structure FrameC (P : Program) (ops : Array Oper) (ch : List Nat) (M : List (Nat × Value)) (obs : List Ob) (i : Nat) (us : List Value) (M' : List (Nat × Value)) : Prop where
  eq : ((envC P ops ch M (obs.map Ob.v) i).map fun x => M'.map (fun p => slotC ops ch x.1 us i p.1)) = some (M'.map fun p => some p.2)
structure LooksC (ops : Array Oper) (i : Nat) (M' : List (Nat × Value)) : Prop where
  eq : (match ops[i]? with | some o => M'.all (fun p => (o.looksAt ops).contains p.1) | none => false) = true
section
variable {P : Program} {r : Option Nat} {ops : Array Oper} {Q : Exit → Act → World → Prop} {N : Nat} {ds : List Deferred} {M : List (Nat × Value)} {ch : List Nat} {vals : List Value}
theorem idxIn_spec : ∀ {ch : List Nat} {q j r : Nat}, idxIn ch q j = some r → q ≤ r ∧ ch[r - q]? = some j := by
  intro ch
  induction ch with
  | nil => intro q j r h; simp [idxIn] at h
  | cons c l ih =>
    intro q j r h
    simp only [idxIn] at h
    cases hb : Nat.beq c j with
    | true => rw [hb] at h; simp at h; subst h; rw [Nat.beq_eq] at hb; subst hb; simp
    | false =>
      rw [hb] at h
      simp at h
      obtain ⟨h1, h2⟩ := ih h
      refine ⟨by omega, ?_⟩
      rw [show r - q = (r - (q + 1)) + 1 by omega, List.getElem?_cons_succ]; exact h2
theorem idxIn_none : ∀ {ch : List Nat} {q j : Nat}, idxIn ch q j = none → j ∉ ch := by
  intro ch
  induction ch with
  | nil => intro q j _; simp
  | cons c l ih =>
    intro q j h
    simp only [idxIn] at h
    cases hb : Nat.beq c j with
    | true => rw [hb] at h; simp at h
    | false =>
      rw [hb] at h
      simp at h
      have hne : j ≠ c := fun e => by subst e; simp at hb
      simp [hne, ih h]
theorem chain_anc : ∀ {ch : List Nat}, chainOk ops ch = true → ∀ {p q c d : Nat}, p < q → ch[p]? = some c → ch[q]? = some d → Anc ops c d ∧ c < d := by
  intro ch
  induction ch with
  | nil => intro _ p q c d _ h; simp at h
  | cons x l ih =>
    intro h p q c d hpq hp hq
    cases l with
    | nil =>
      cases q with
      | zero => omega
      | succ q => simp at hq
    | cons y l =>
      simp only [chainOk, Bool.and_eq_true] at h
      obtain ⟨⟨h1, h2⟩, h3⟩ := h
      have hxy := testBit_anc h2
      have hlt := Nat.blt_eq.mp h1
      cases q with
      | zero => omega
      | succ q =>
        cases p with
        | zero =>
          simp at hp
          subst hp
          cases q with
          | zero => simp at hq; subst hq; exact ⟨hxy, hlt⟩
          | succ q =>
            have := ih h3 (p := 0) (q := q + 1) (c := y) (d := d) (by omega) rfl (by simpa using hq)
            exact ⟨.trans this.1 hxy, by omega⟩
        | succ p => exact ih h3 (p := p) (q := q) (by omega) (by simpa using hp) (by simpa using hq)
theorem lookE_filter {E : List (Nat × En)} {d t : Nat} (hne : t ≠ d) : lookE (E.filter (fun p => !Nat.beq p.1 d)) t = lookE E t := by
  induction E with
  | nil => rfl
  | cons p E ih =>
    obtain ⟨k, e⟩ := p
    by_cases hk : k = d
    · subst hk
      have h1 : Nat.beq k k = true := by simp
      have h2 : Nat.beq k t = false := by
        cases hb : Nat.beq k t with
        | false => rfl
        | true => rw [Nat.beq_eq] at hb; exact absurd hb.symm hne
      rw [List.filter_cons_of_neg (by simp), lookE, h2]
      exact ih
    · have h1 : Nat.beq k d = false := by
        cases hb : Nat.beq k d with
        | false => rfl
        | true => rw [Nat.beq_eq] at hb; exact absurd hb hk
      rw [List.filter_cons_of_pos (by simpa using h1)]
      simp only [lookE, ih]
theorem lookE_filter_self {E : List (Nat × En)} {d : Nat} : lookE (E.filter (fun p => !Nat.beq p.1 d)) d = none := by
  induction E with
  | nil => rfl
  | cons p E ih =>
    obtain ⟨k, e⟩ := p
    by_cases hk : k = d
    · subst hk
      rw [List.filter_cons_of_neg (by simp)]; exact ih
    · have h1 : Nat.beq k d = false := by
        cases hb : Nat.beq k d with
        | false => rfl
        | true => rw [Nat.beq_eq] at hb; exact absurd hb hk
      rw [List.filter_cons_of_pos (by simpa using h1)]
      simp only [lookE, h1, cond_false]; exact ih
theorem srcOf_succ {i t : Nat} : srcOf ops (i + 1) t = if dstAt ops i = some t then some i else srcOf ops i t := by
  simp only [srcOf]
  cases hd : dstAt ops i with
  | none => simp
  | some d =>
    by_cases h : d = t
    · subst h; simp
    · have hb : Nat.beq d t = false := by
        cases hb : Nat.beq d t with
        | false => rfl
        | true => rw [Nat.beq_eq] at hb; exact absurd hb h
      simp [hb, h]
/-- Where an entry comes from. -/
theorem envC_spec : ∀ {i : Nat} {E : List (Nat × En)} {obs : List Ob} {vs : List Value}, envC P ops ch M vals i = some (E, obs, vs) →
    CohE E ∧ (∀ t e, lookE E t = some e →
      (∃ j, srcOf ops i t = some j ∧ j ∉ ch ∧ ∃ E' obs' vs' ob vs'' o, envC P ops ch M vals j = some (E', obs', vs') ∧ ops[j]? = some o ∧ evalOp P ops E' o vs' = some (e, ob, vs'') ) ∨ (srcOf ops i t = none ∧ e.conds = [] ∧ (t, e.v) ∈ M)) ∧
    (∀ j, j < i → ∀ E' obs' vs', envC P ops ch M vals j = some (E', obs', vs') → ∀ o, ops[j]? = some o → j ∉ ch → ∀ e ob vs'', evalOp P ops E' o vs' = some (e, ob, vs'') → ∃ x y, obs = x ++ ob ++ y) := by
  intro i
  induction i with
  | zero =>
    intro E obs vs h
    simp [envC] at h
    obtain ⟨rfl, rfl, rfl⟩ := h
    refine ⟨coh_ofM M, fun t e he => .inr ⟨rfl, lookE_ofM he⟩, fun j hj => by omega⟩
  | succ i ih =>
    intro E obs vs h
    simp only [envC] at h
    cases hp : envC P ops ch M vals i with
    | none => rw [hp] at h; simp at h
    | some x =>
      obtain ⟨E0, obs0, vs0⟩ := x
      rw [hp] at h
      simp only at h
      obtain ⟨hc0, hsrc0, hobs0⟩ := ih hp
      cases ho : ops[i]? with
      | none => rw [ho] at h; simp at h
      | some o =>
        rw [ho] at h
        simp only at h
        have hd : dstAt ops i = o.dst := by simp [dstAt, ho]
        cases hch : ch.contains i with
        | true =>
          rw [hch] at h
          simp only [cond_true] at h
          have hmem : i ∈ ch := by simpa using hch
          cases hf : dstFree E0 o.dst ⟨[], undef⟩ with
          | false => rw [hf] at h; simp at h
          | true =>
            rw [hf] at h
            simp only [cond_true, Option.some.injEq, Prod.mk.injEq] at h
            obtain ⟨rfl, rfl, rfl⟩ := h
            have tailobs : ∀ j, j < i + 1 → ∀ E' obs' vs', envC P ops ch M vals j = some (E', obs', vs') → ∀ o, ops[j]? = some o → j ∉ ch → ∀ e ob vs'', evalOp P ops E' o vs' = some (e, ob, vs'') → ∃ x y, obs0 = x ++ ob ++ y := by
              intro j hj E' obs' vs' hj' o' ho' hjc e ob vs'' hev
              rcases Nat.lt_or_ge j i with hlt | hge
              · exact hobs0 j hlt E' obs' vs' hj' o' ho' hjc e ob vs'' hev
              · have : j = i := by omega
                subst this; exact absurd hmem hjc
            cases hod : o.dst with
            | none =>
              refine ⟨hc0, fun t e he => ?_, tailobs⟩
              rw [srcOf_succ, hd, hod]; simpa using hsrc0 t e he
            | some d =>
              rw [hod] at hf
              simp only [dstFree, Bool.and_eq_true, List.all_eq_true] at hf
              have hfree : ∀ t e, lookE E0 t = some e → ∀ c ∈ e.conds, c.slot ≠ d := fun t e he => freeOf_spec (hf.2 _ (lookE_mem he))
              refine ⟨fun t e he c hc => ?_, fun t e he => ?_, tailobs⟩
              · by_cases htd : t = d
                · subst htd; simp only [lookE_filter_self] at he; cases he
                · simp only [lookE_filter htd] at he
                  obtain ⟨e', h1, h2⟩ := hc0 t e he c hc
                  exact ⟨e', by simp only [lookE_filter (hfree t e he c hc)]; exact h1, h2⟩
              · by_cases htd : t = d
                · subst htd; simp only [lookE_filter_self] at he; cases he
                · simp only [lookE_filter htd] at he
                  rw [srcOf_succ, hd, hod, if_neg (fun e => htd (by cases e; rfl))]
                  exact hsrc0 t e he
        | false =>
          rw [hch] at h
          simp only [cond_false] at h
          have hnmem : i ∉ ch := by
            intro hm
            have : ch.contains i = true := by simpa using hm
            rw [hch] at this; cases this
          cases hev : evalOp P ops E0 o vs0 with
          | none => rw [hev] at h; simp at h
          | some y =>
            obtain ⟨e1, ob1, vs1⟩ := y
            rw [hev] at h
            simp only at h
            cases hf : dstFree E0 o.dst e1 with
            | false => rw [hf] at h; simp at h
            | true =>
              rw [hf] at h
              simp only [cond_true, Option.some.injEq, Prod.mk.injEq] at h
              obtain ⟨rfl, rfl, rfl⟩ := h
              have hcoh1 : Coh E0 e1.conds := (evalOp_spec (r := none) (T := fun a b => b = a) (D := fun _ => False) trans_eq hc0 hev (by
                clear hev hf
                induction ob1 with
                | nil => trivial
                | cons o l ih => exact ⟨by cases o <;> exact fun _ _ h => h.elim, ih⟩)).1
              refine ⟨coh_put hc0 hcoh1 hf, fun t e he => ?_, ?_⟩
              · rw [srcOf_succ, hd]
                cases hod : o.dst with
                | none => rw [hod] at he; simp only [putE] at he; simpa using hsrc0 t e he
                | some d =>
                  rw [hod] at he
                  simp only [putE, lookE] at he
                  by_cases htd : d = t
                  · subst htd
                    simp at he
                    subst he
                    exact .inl ⟨i, by simp, hnmem, E0, obs0, vs0, ob1, vs1, o, hp, ho, hev⟩
                  · have hb : Nat.beq d t = false := by
                      cases hb : Nat.beq d t with
                      | false => rfl
                      | true => rw [Nat.beq_eq] at hb; exact absurd hb htd
                    rw [hb] at he
                    simp at he
                    rw [if_neg (fun e => htd (by cases e; rfl))]
                    exact hsrc0 t e he
              · intro j hj E' obs' vs' hj' o' ho' hjc e ob vs'' hev'
                rcases Nat.lt_or_ge j i with hlt | hge
                · obtain ⟨x, y, hxy⟩ := hobs0 j hlt E' obs' vs' hj' o' ho' hjc e ob vs'' hev'
                  exact ⟨x, y ++ ob1, by rw [hxy]; simp⟩
                · have : j = i := by omega
                  subst this
                  rw [hp] at hj'
                  cases hj'
                  rw [ho] at ho'
                  cases ho'
                  rw [hev] at hev'
                  cases hev'
                  exact ⟨obs0, [], by simp⟩
/-- What lies at a number before m is known too. -/
theorem envC_prev {m : Nat} {x : List (Nat × En) × List Ob × List Value} (h : envC P ops ch M vals m = some x) : ∀ i, i ≤ m → ∃ y, envC P ops ch M vals i = some y := by
  induction m generalizing x with
  | zero => intro i hi; obtain rfl : i = 0 := by omega
            exact ⟨x, h⟩
  | succ m ih =>
    intro i hi
    by_cases hm : i = m + 1
    · subst hm; exact ⟨x, h⟩
    · simp only [envC] at h
      cases hp : envC P ops ch M vals m with
      | none => rw [hp] at h; simp at h
      | some y => exact ih hp i (by omega)
theorem evalOp_prev {m i : Nat} {x : List (Nat × En) × List Ob × List Value} (h : envC P ops ch M vals m = some x) (hi : i < m) (hn : i ∉ ch) : ∃ E obs vs o e ob vs', envC P ops ch M vals i = some (E, obs, vs) ∧ ops[i]? = some o ∧ evalOp P ops E o vs = some (e, ob, vs') := by
  obtain ⟨y, hy⟩ := envC_prev h (i + 1) (by omega)
  simp only [envC] at hy
  cases hp : envC P ops ch M vals i with
  | none => rw [hp] at hy; simp at hy
  | some z =>
    obtain ⟨E, obs, vs⟩ := z
    rw [hp] at hy
    simp only at hy
    cases ho : ops[i]? with
    | none => rw [ho] at hy; simp at hy
    | some o =>
      rw [ho] at hy
      simp only at hy
      have hch : ch.contains i = false := by
        cases hc : ch.contains i with
        | false => rfl
        | true => exact absurd (by simpa using hc) hn
      rw [hch] at hy
      simp only [cond_false] at hy
      cases hev : evalOp P ops E o vs with
      | none => rw [hev] at hy; simp at hy
      | some q => obtain ⟨e, ob, vs'⟩ := q; exact ⟨E, obs, vs, o, e, ob, vs', rfl, rfl, hev⟩
theorem Obs.mid {T : World → World → Prop} {D : World → Prop} {x y z : List Ob} (h : Obs P T D (x ++ y ++ z)) : Obs P T D y := by
  rw [Obs.append, Obs.append] at h
  exact h.1.2

/-! ### Tokens: what each operation with an effect takes and leaves -/
/-- A resource: from the start, or made out of the value of operation prod; taken by operation cons. -/
structure Tok where
  prod : Option Nat
  cons : Option Nat
  res : Value → Res
def Tok.at (k : Tok) (σ : Nat → Value) : Res := match k.prod with | some p => k.res (σ p) | none => k.res undef
def Tok.on (k : Tok) (S : Nat → Bool) : Bool := (match k.prod with | some p => S p | none => true) && !(match k.cons with | some c => S c | none => false)
def active (ts : List Tok) (S : Nat → Bool) (σ : Nat → Value) : List Res := (ts.filter (·.on S)).map (·.at σ)
def insOf (ts : List Tok) (i : Nat) : List Tok := ts.filter fun k => match k.cons with | some c => Nat.beq c i | none => false
def outsOf (ts : List Tok) (i : Nat) : List Tok := ts.filter fun k => match k.prod with | some p => Nat.beq p i | none => false
/-- Who takes comes behind who makes; no one takes what he makes; only operations of the list make and take. -/
def toksOk (ops : Array Oper) (ch : List Nat) (ts : List Tok) : Bool :=
  ts.all fun k => (match k.prod, k.cons with
    | some p, some c => ((masks ops.toList []).getD c 0).testBit p && !Nat.beq p c
    | _, _ => true) && (match k.prod with | some p => ch.contains p | none => true) && (match k.cons with | some c => ch.contains c | none => true)
/-- What never goes. -/
def always (ts : List Tok) : List Res := (ts.filter fun k => k.prod.isNone && k.cons.isNone).map (·.at fun _ => undef)
theorem filter3 {α : Type} (p q : α → Bool) (l : List α) (h : ∀ x, q x = true → p x = true) : (l.filter p).Perm (l.filter q ++ l.filter (fun x => p x && !q x)) := by
  induction l with
  | nil => simp
  | cons x l ih =>
    cases hp : p x with
    | false =>
      have hq : q x = false := by cases hq : q x with | false => rfl | true => rw [h x hq] at hp; cases hp
      simp [hp, hq]; exact ih
    | true =>
      cases hq : q x with
      | true => simp [hp, hq]; exact ih
      | false =>
        simp [hp, hq]
        exact (List.Perm.cons x ih).trans List.perm_middle.symm
theorem runT {id : Nat} (m : Nat) (ch : List Nat) (ts : List Tok) (M' : List Value → List (Nat × Value)) {obs : List Ob} {a : Act} {w w0 : World} (D : World → Prop)
    (hmo : P.follows .mixedOrders = true) (hF : Fr N ds M a) (hck : (dstOk ops N && ordOk ops m && tailOk ops m && edgesOk ops && Nat.ble m ops.size && toksOk ops ch ts && ch.all (fun c => Nat.blt c m)) = true)
    (hob : Obs P Ext D obs) (hobs : ((envC P ops ch M (obs.map Ob.v) m).map fun x => x.2.1) = some obs)
    (h0 : St w0 (active ts (fun _ => false) (fun _ => undef)) w) (hD : ∀ H w, St w0 (always ts ++ H) w → D w)
    (hsteps : ∀ (q c : Nat) (o : Oper), ch[q]? = some c → ops[c]? = some o → ∃ Mc : List Value → List (Nat × Value), (∀ us, us.length = ch.length → FrameC P ops ch M obs c us (Mc us)) ∧ (∀ us, us.length = ch.length → LooksC ops c (Mc us)) ∧
      ∀ us a w F, us.length = ch.length → St w0 ((insOf ts c).map (fun k => k.at fun j => ((idxIn ch 0 j).bind (us[·]?)).getD undef) ++ F) w → D w → Fr N ds (Mc us) a → OpG P r ops o a w (fun v w' => St w0 ((outsOf ts c).map (fun k => k.res v) ++ F) w'))
    (hfin : ∀ us, us.length = ch.length → FrameC P ops ch M obs m us (M' us))
    (next : ∀ us a' w', us.length = ch.length → St w0 ((ts.filter (fun k => k.cons.isNone)).map (fun k => k.at fun j => ((idxIn ch 0 j).bind (us[·]?)).getD undef)) w' → Fr N ds (M' us) a' → WI P r ops Q m a' w') : WP P r (.region id ops true) Q a w := by
  simp only [Bool.and_eq_true] at hck
  obtain ⟨⟨⟨⟨⟨⟨h1, h2⟩, h3⟩, h4⟩, h5⟩, h6⟩, h7⟩ := hck
  have hmn := Nat.le_of_ble_eq_true h5
  have hchm : ∀ c ∈ ch, c < m := fun c hc => Nat.blt_eq.mp (List.all_eq_true.1 h7 c hc)
  have htok : ∀ k ∈ ts, (∀ p c, k.prod = some p → k.cons = some c → Anc ops p c ∧ p ≠ c) ∧ (∀ p, k.prod = some p → p ∈ ch) ∧ (∀ c, k.cons = some c → c ∈ ch) := by
    intro k hk
    have := List.all_eq_true.1 h6 k hk
    simp only [Bool.and_eq_true] at this
    obtain ⟨⟨t1, t2⟩, t3⟩ := this
    refine ⟨fun p c hp hc => ?_, fun p hp => ?_, fun c hc => ?_⟩
    · rw [hp, hc] at t1
      simp only [Bool.and_eq_true] at t1
      exact ⟨testBit_anc t1.1, fun e => by rw [e] at t1; simp at t1⟩
    · rw [hp] at t2; simpa using t2
    · rw [hc] at t3; simpa using t3
  -- a value by its place in the list
  have uval : ∀ (σ : Nat → Value) (j : Nat), j ∈ ch → ((idxIn ch 0 j).bind ((ch.map σ)[·]?)).getD undef = σ j := by
    intro σ j hj
    cases hq : idxIn ch 0 j with
    | none => exact absurd hj (idxIn_none hq)
    | some q =>
      have := (idxIn_spec hq).2
      rw [Nat.sub_zero] at this
      simp [this]
  have atval : ∀ (σ : Nat → Value), ∀ k ∈ ts, k.at (fun j => ((idxIn ch 0 j).bind ((ch.map σ)[·]?)).getD undef) = k.at σ := by
    intro σ k hk
    unfold Tok.at
    cases hp : k.prod with
    | none => rfl
    | some p => simp only; rw [uval σ p ((htok k hk).2.1 p hp)]
  cases hem : envC P ops ch M (obs.map Ob.v) m with
  | none => rw [hem] at hobs; simp at hobs
  | some x =>
    obtain ⟨Em, obsm, vsm⟩ := x
    rw [hem] at hobs
    simp only [Option.map_some, Option.some.injEq] at hobs
    subst hobs
    let G : (Nat → Bool) → (Nat → Value) → World → Prop := fun S σ w =>
      St w0 (active ts S σ) w ∧
      (∀ i E ob0 vs o e ob vs', i < m → S i = true → i ∉ ch → envC P ops ch M (obsm.map Ob.v) i = some (E, ob0, vs) → ops[i]? = some o → evalOp P ops E o vs = some (e, ob, vs') → σ i = e.val)
    have dom : ∀ S σ w, St w0 (active ts S σ) w → D w := by
      intro S σ w hS
      have hp := filter3 (fun k : Tok => k.on S) (fun k : Tok => k.prod.isNone && k.cons.isNone) ts (fun k hk => by
        simp only [Bool.and_eq_true, Option.isNone_iff_eq_none] at hk
        simp [Tok.on, hk.1, hk.2])
      have hp' := hp.map (fun k : Tok => k.at σ)
      rw [List.map_append] at hp'
      have e : (ts.filter fun k => k.prod.isNone && k.cons.isNone).map (fun k => k.at σ) = always ts := by
        unfold always
        refine List.map_congr_left (fun k hk => ?_)
        have := (List.mem_filter.1 hk).2
        simp only [Bool.and_eq_true, Option.isNone_iff_eq_none] at this
        simp [Tok.at, this.1]
      rw [e] at hp'
      exact hD _ w (hS.perm hp')
    have entry' : ∀ (S : Nat → Bool) (σ : Nat → Value) (w' : World) (i : Nat) (E : List (Nat × En)) (ob0 : List Ob) (vs : List Value), i ≤ m → envC P ops ch M (obsm.map Ob.v) i = some (E, ob0, vs) → G S σ w' → ∀ t e, lookE E t = some e →
        (∀ j, srcOf ops i t = some j → S j = true) → slotOf ops a σ i t = e.val := by
      intro S σ w' i E ob0 vs him henv hG t e he hS
      unfold slotOf
      rcases (envC_spec henv).2.1 t e he with ⟨j, hj, hjc, E', obs', vs', ob, vs'', o, hE', ho, hev⟩ | ⟨hn, hcn, hmem⟩
      · rw [hj]
        have hji := (srcOf_some hj).1
        exact hG.2 j E' obs' vs' o e ob vs'' (by omega) (hS j hj) hjc hE' ho hev
      · rw [hn]
        have := hF.slot _ hmem
        simp only at this
        rw [this]; simp [En.val, hcn, condsOk]
    have slotC_ok : ∀ (S : Nat → Bool) (σ : Nat → Value) (w' : World) (i : Nat) (E : List (Nat × En)) (ob0 : List Ob) (vs : List Value), i ≤ m → envC P ops ch M (obsm.map Ob.v) i = some (E, ob0, vs) → G S σ w' → ∀ t u,
        (∀ j, srcOf ops i t = some j → S j = true) → slotC ops ch E (ch.map σ) i t = some u → slotOf ops a σ i t = u := by
      intro S σ w' i E ob0 vs him henv hG t u hS hu
      have det : (match lookE E t with | some ⟨[], v⟩ => some v | _ => none) = some u → slotOf ops a σ i t = u := by
        intro h
        cases hl : lookE E t with
        | none => rw [hl] at h; simp at h
        | some e =>
          obtain ⟨cs, v⟩ := e
          rw [hl] at h
          cases cs with
          | cons => simp at h
          | nil =>
            simp at h
            subst h
            rw [entry' S σ w' i E ob0 vs him henv hG t _ hl hS]
            simp [En.val, condsOk]
      unfold slotC at hu
      cases hs : srcOf ops i t with
      | none => rw [hs] at hu; exact det hu
      | some j =>
        rw [hs] at hu
        simp only at hu
        cases hq : idxIn ch 0 j with
        | none => rw [hq] at hu; exact det hu
        | some q =>
          rw [hq] at hu
          simp only at hu
          have hcq := (idxIn_spec hq).2
          rw [Nat.sub_zero] at hcq
          unfold slotOf
          rw [hs]
          rw [List.getElem?_map, hcq] at hu
          simpa using hu
    refine region_anyG (N := N) (m := m) (G := G) hmo h1 h2 h3 h4 hmn ?_ hF.size ?_ (fun _ => undef) ⟨h0.later (ext_drew w), fun i E ob0 vs o e ob vs' _ h => by simp at h⟩ ?_
    · intro S σ a1 w1 i o him ho hSi hanc hcl hlow hsz hdf hG hlook
      obtain ⟨hSt, hdet⟩ := hG
      have hsrc : ∀ t ∈ o.looksAt ops, ∀ j, srcOf ops i t = some j → S j = true := by
        intro t ht j hj
        obtain ⟨hji, hdj, _⟩ := srcOf_some hj
        obtain ⟨xo, hxo, hxd⟩ := dstAt_oper hdj
        rcases ordOk_spec h2 hji him hxo ho with hap | hA
        · exact absurd ht ((Oper.apart_spec hap).1 t hxd)
        · exact hanc j hA
      have detkeep : i ∈ ch → ∀ v, ∀ i' E' ob' vs' o' e' ob'' vs'', i' < m → (S i' || Nat.beq i' i) = true → i' ∉ ch → envC P ops ch M (obsm.map Ob.v) i' = some (E', ob', vs') → ops[i']? = some o' → evalOp P ops E' o' vs' = some (e', ob'', vs'') → updV σ i v i' = e'.val := by
        intro hic v i' E' ob' vs' o' e' ob'' vs'' hi' hS' hic' henv' ho' hev'
        have hne : i' ≠ i := fun e => by subst e; exact hic' hic
        have hb : Nat.beq i' i = false := by
          cases hb : Nat.beq i' i with
          | false => rfl
          | true => rw [Nat.beq_eq] at hb; exact absurd hb hne
        rw [hb, Bool.or_false] at hS'
        simp only [updV]; rw [if_neg hne]
        exact hdet i' E' ob' vs' o' e' ob'' vs'' hi' hS' hic' henv' ho' hev'
      by_cases hic : i ∈ ch
      · obtain ⟨q, hq⟩ := List.mem_iff_getElem?.1 hic
        obtain ⟨Mc, hMc, hLc, hstep⟩ := hsteps q i o hq ho
        have hlen : (ch.map σ).length = ch.length := by simp
        obtain ⟨y, hy⟩ := envC_prev hem i (by omega)
        obtain ⟨E, ob0, vs⟩ := y
        have hfr : Fr N ds (Mc (ch.map σ)) a1 := by
          refine ⟨hsz, hdf.trans hF.defers, fun p hp => ?_⟩
          have e1 := (hMc _ hlen).eq
          rw [hy] at e1
          simp only [Option.map_some, Option.some.injEq] at e1
          have e2 := List.map_inj_left.1 e1 p hp
          have e3 := (hLc _ hlen).eq
          rw [ho] at e3
          simp only [List.all_eq_true] at e3
          have hpl : p.1 ∈ o.looksAt ops := by simpa using e3 p hp
          rw [hlook p.1 hpl]
          exact slotC_ok S σ w1 i E ob0 vs (by omega) hy ⟨hSt, hdet⟩ p.1 p.2 (hsrc p.1 hpl) e2
        -- what it takes, and the rest
        have hinon : ∀ k ∈ ts, (match k.cons with | some c => Nat.beq c i | none => false) = true → k.on S = true := by
          intro k hk hkc
          cases hc : k.cons with
          | none => rw [hc] at hkc; simp at hkc
          | some c =>
            rw [hc] at hkc
            simp only [Nat.beq_eq] at hkc
            subst hkc
            unfold Tok.on
            rw [hc]
            cases hp : k.prod with
            | none => simp [hSi]
            | some p =>
              have := ((htok k hk).1 p c hp hc).1
              simp [hSi, hanc p this]
        have perm1 : (active ts S σ).Perm ((insOf ts i).map (fun k => k.at σ) ++ (ts.filter fun k => k.on S && !(match k.cons with | some c => Nat.beq c i | none => false)).map (fun k => k.at σ)) := by
          unfold active insOf
          rw [← List.map_append]
          refine List.Perm.map _ ?_
          have e1 : ts.filter (fun k => match k.cons with | some c => Nat.beq c i | none => false) = ts.filter (fun k => k.on S && (match k.cons with | some c => Nat.beq c i | none => false)) := by
            refine List.filter_congr (fun k hk => ?_)
            cases hb : (match k.cons with | some c => Nat.beq c i | none => false) with
            | false => simp
            | true => rw [hinon k hk hb]; rfl
          rw [e1]
          have := filter3 (fun k : Tok => k.on S) (fun k : Tok => k.on S && (match k.cons with | some c => Nat.beq c i | none => false)) ts (fun k hk => by simp only [Bool.and_eq_true] at hk; exact hk.1)
          refine this.trans (List.Perm.append_left _ ?_)
          have e2 : (fun x : Tok => x.on S && !(x.on S && match x.cons with | some c => Nat.beq c i | none => false)) = (fun k => k.on S && !(match k.cons with | some c => Nat.beq c i | none => false)) := by
            funext k; cases k.on S <;> simp
          rw [e2]
        have hins : (insOf ts i).map (fun k => k.at fun j => ((idxIn ch 0 j).bind ((ch.map σ)[·]?)).getD undef) = (insOf ts i).map (fun k => k.at σ) :=
          List.map_congr_left (fun k hk => atval σ k (List.mem_filter.1 hk).1)
        have hst1 := hSt.perm perm1
        rw [← hins] at hst1
        refine (hstep _ a1 w1 _ hlen hst1 (dom S σ w1 hSt) hfr).mono ?_
        intro v w' hst2
        refine ⟨hst2.perm ?_, detkeep hic v⟩
        -- what is there now
        have perm2 : (active ts (fun k => S k || Nat.beq k i) (updV σ i v)).Perm ((outsOf ts i).map (fun k => k.res v) ++ (ts.filter fun k => k.on S && !(match k.cons with | some c => Nat.beq c i | none => false)).map (fun k => k.at σ)) := by
          have houton : ∀ k ∈ ts, (match k.prod with | some p => Nat.beq p i | none => false) = true → k.on (fun k => S k || Nat.beq k i) = true := by
            intro k hk hkp
            cases hp : k.prod with
            | none => rw [hp] at hkp; simp at hkp
            | some p =>
              rw [hp] at hkp
              simp only [Nat.beq_eq] at hkp
              subst hkp
              unfold Tok.on
              rw [hp]
              cases hc : k.cons with
              | none => simp
              | some c =>
                have hA := (htok k hk).1 p c hp hc
                have hSc : S c = false := by
                  cases hSc : S c with
                  | false => rfl
                  | true => have := hcl p c hSc hA.1; rw [hSi] at this; cases this
                have hb : Nat.beq c p = false := by
                  cases hb : Nat.beq c p with
                  | false => rfl
                  | true => rw [Nat.beq_eq] at hb; exact absurd hb.symm hA.2
                simp [hSc, hb]
          have e1 : (outsOf ts i).map (fun k => k.res v) = (ts.filter (fun k => k.on (fun k => S k || Nat.beq k i) && (match k.prod with | some p => Nat.beq p i | none => false))).map (fun k => k.at (updV σ i v)) := by
            have e0 : outsOf ts i = ts.filter (fun k => k.on (fun k => S k || Nat.beq k i) && (match k.prod with | some p => Nat.beq p i | none => false)) := by
              unfold outsOf
              refine List.filter_congr (fun k hk => ?_)
              cases hb : (match k.prod with | some p => Nat.beq p i | none => false) with
              | false => simp
              | true => rw [houton k hk hb]; rfl
            rw [← e0]
            refine List.map_congr_left (fun k hk => ?_)
            have := (List.mem_filter.1 hk).2
            cases hp : k.prod with
            | none => rw [hp] at this; simp at this
            | some p =>
              rw [hp] at this
              simp only [Nat.beq_eq] at this
              simp [Tok.at, hp, updV, this]
          have e2 : (ts.filter fun k => k.on S && !(match k.cons with | some c => Nat.beq c i | none => false)).map (fun k => k.at σ) = (ts.filter (fun k => k.on (fun k => S k || Nat.beq k i) && !(match k.prod with | some p => Nat.beq p i | none => false))).map (fun k => k.at (updV σ i v)) := by
            have e0 : ts.filter (fun k => k.on S && !(match k.cons with | some c => Nat.beq c i | none => false)) = ts.filter (fun k => k.on (fun k => S k || Nat.beq k i) && !(match k.prod with | some p => Nat.beq p i | none => false)) := by
              refine List.filter_congr (fun k hk => ?_)
              unfold Tok.on
              cases hp : k.prod with
              | none => cases hc : k.cons with
                | none => simp
                | some c => cases S c <;> simp
              | some p =>
                cases hpi : Nat.beq p i with
                | true =>
                  have : p = i := by simpa using hpi
                  subst this
                  simp [hSi]
                | false =>
                  simp only [hpi, Bool.or_false, Bool.not_false, Bool.and_true]
                  cases hc : k.cons with
                  | none => simp
                  | some c => simp only; cases S c <;> cases S p <;> cases Nat.beq c i <;> rfl
            rw [← e0]
            refine List.map_congr_left (fun k hk => ?_)
            have hkm := (List.mem_filter.1 hk).2
            rw [Bool.and_eq_true] at hkm
            unfold Tok.at
            cases hp : k.prod with
            | none => rfl
            | some p =>
              have hon := hkm.1
              unfold Tok.on at hon
              rw [hp, Bool.and_eq_true] at hon
              have hpi : p ≠ i := fun e => by subst e; simp only at hon; rw [hSi] at hon; exact absurd hon.1 (by simp)
              simp only [updV]; rw [if_neg hpi]
          rw [e1, e2]
          unfold active
          rw [← List.map_append]
          refine List.Perm.map _ ?_
          have := filter3 (fun k : Tok => k.on (fun k => S k || Nat.beq k i)) (fun k : Tok => k.on (fun k => S k || Nat.beq k i) && (match k.prod with | some p => Nat.beq p i | none => false)) ts (fun k hk => by simp only [Bool.and_eq_true] at hk; exact hk.1)
          refine this.trans (List.Perm.append_left _ ?_)
          have e3 : (fun x : Tok => x.on (fun k => S k || Nat.beq k i) && !(x.on (fun k => S k || Nat.beq k i) && match x.prod with | some p => Nat.beq p i | none => false)) = (fun k => k.on (fun k => S k || Nat.beq k i) && !(match k.prod with | some p => Nat.beq p i | none => false)) := by
            funext k; cases k.on (fun k => S k || Nat.beq k i) <;> simp
          rw [e3]
        exact perm2.symm
      · obtain ⟨E, ob0, vs, o', e, ob, vs', henv, ho', hev⟩ := evalOp_prev hem him hic
        rw [ho] at ho'
        cases ho'
        obtain ⟨hcE, _, _⟩ := envC_spec henv
        obtain ⟨x1, x2, hx⟩ := (envC_spec hem).2.2 i him E ob0 vs henv o ho hic e ob vs' hev
        have hobx : Obs P Ext D ob := by rw [hx] at hob; exact hob.mid
        have hop := (evalOp_spec (r := r) trans_ext hcE hev hobx).2
        have hop' := hop a1 w1 (dom S σ w1 hSt) (fun t ht ψ hl => by
          rw [lookA_toA] at hl
          cases hle : lookE E t with
          | none => rw [hle] at hl; simp at hl
          | some e' =>
            rw [hle] at hl
            simp at hl
            subst hl
            rw [hlook t ht]
            exact entry' S σ w1 i E ob0 vs (by omega) henv ⟨hSt, hdet⟩ t e' hle (hsrc t ht))
        refine hop'.mono ?_
        rintro v w' ⟨hxw, hv⟩
        refine ⟨?_, ?_⟩
        · have eact : active ts (fun k => S k || Nat.beq k i) (updV σ i v) = active ts S σ := by
            have notprod : ∀ k ∈ ts, ∀ p, k.prod = some p → p ≠ i := fun k hk p hp e => hic (e ▸ (htok k hk).2.1 p hp)
            have notcons : ∀ k ∈ ts, ∀ c, k.cons = some c → c ≠ i := fun k hk c hc e => hic (e ▸ (htok k hk).2.2 c hc)
            unfold active
            have ef : ts.filter (fun k => k.on fun k => S k || Nat.beq k i) = ts.filter (fun k => k.on S) := by
              refine List.filter_congr (fun k hk => ?_)
              have nb : ∀ x, x ≠ i → Nat.beq x i = false := fun x hx => by
                cases hb : Nat.beq x i with
                | false => rfl
                | true => rw [Nat.beq_eq] at hb; exact absurd hb hx
              unfold Tok.on
              cases hp : k.prod with
              | none => cases hc : k.cons with
                | none => rfl
                | some c => simp [nb c (notcons k hk c hc)]
              | some p => cases hc : k.cons with
                | none => simp [nb p (notprod k hk p hp)]
                | some c => simp [nb p (notprod k hk p hp), nb c (notcons k hk c hc)]
            rw [ef]
            refine List.map_congr_left (fun k hk => ?_)
            unfold Tok.at
            cases hp : k.prod with
            | none => rfl
            | some p => simp only [updV]; rw [if_neg (notprod k (List.mem_filter.1 hk).1 p hp)]
          rw [eact]; exact hSt.later hxw
        · intro i' E' ob' vs1 o' e' ob'' vs'' hi' hS' hic' henv' ho' hev'
          by_cases hii : i' = i
          · subst hii
            rw [henv] at henv'
            cases henv'
            rw [ho] at ho'
            cases ho'
            rw [hev] at hev'
            cases hev'
            simp [updV, hv]
          · have hb : Nat.beq i' i = false := by
              cases hb : Nat.beq i' i with
              | false => rfl
              | true => rw [Nat.beq_eq] at hb; exact absurd hb hii
            simp only [hb, Bool.or_false] at hS'
            simp only [updV]; rw [if_neg hii]
            exact hdet i' E' ob' vs1 o' e' ob'' vs'' hi' hS' hic' henv' ho' hev'
    · intro S S' σ w1 hSS hG
      have : S = S' := funext hSS
      rw [← this]; exact hG
    · intro a' w' σ hN hdf hG hslots
      obtain ⟨hSt, hdet⟩ := hG
      have ea : active ts (fun k => Nat.blt k m) σ = (ts.filter (fun k => k.cons.isNone)).map (fun k => k.at fun j => ((idxIn ch 0 j).bind ((ch.map σ)[·]?)).getD undef) := by
        unfold active
        have ef : ts.filter (fun k => k.on fun k => Nat.blt k m) = ts.filter (fun k => k.cons.isNone) := by
          refine List.filter_congr (fun k hk => ?_)
          unfold Tok.on
          have bl : ∀ c, c ∈ ch → Nat.blt c m = true := fun c hc => Nat.blt_eq.mpr (hchm c hc)
          cases hp : k.prod with
          | none => cases hc : k.cons with
            | none => rfl
            | some c => simp [bl c ((htok k hk).2.2 c hc)]
          | some p => cases hc : k.cons with
            | none => simp [bl p ((htok k hk).2.1 p hp)]
            | some c => simp [bl c ((htok k hk).2.2 c hc)]
        rw [ef]
        exact List.map_congr_left (fun k hk => (atval σ k (List.mem_filter.1 hk).1).symm)
      refine next (ch.map σ) a' w' (by simp) (by rw [← ea]; exact hSt) ⟨hN, hdf.trans hF.defers, fun p hp => ?_⟩
      have e1 := (hfin (ch.map σ) (by simp)).eq
      rw [hem] at e1
      simp only [Option.map_some, Option.some.injEq] at e1
      have e2 := List.map_inj_left.1 e1 p hp
      rw [hslots p.1]
      exact slotC_ok (fun k => Nat.blt k m) σ w' m Em obsm vsm (Nat.le_refl _) hem ⟨hSt, hdet⟩ p.1 p.2 (fun j hj => Nat.blt_eq.mpr (srcOf_some hj).1) e2
end
end Go.Eng
