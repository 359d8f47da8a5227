/- The engine, part 3: operations that only read are reckoned, guards and all; what they ask of the memory and of callees comes out as a list. -/
import Derived.Test.YtejffembnkojjaaEng2
namespace Go.Eng
open Go Go.RowKit

def pureSem (P : Program) {α : Type} : Sem α → Option α
  | .pure a => some a
  | .program k => pureSem P (k P)
  | .mark _ k => pureSem P k
  | _ => none
theorem pureSem_run {P : Program} {α : Type} : ∀ (s : Sem α) (a : α), pureSem P s = some a → ∀ w, s.run P w = .ok a w := by
  intro s
  induction s with
  | pure b => intro a h w; simp [pureSem] at h; subst h; rfl
  | program k ih => intro a h w; simp only [pureSem] at h; simp only [Sem.run]; exact ih P a h w
  | mark m k ih => intro a h w; simp only [pureSem] at h; simp only [Sem.run]; exact ih a h w
  | _ => intro a h w; simp [pureSem] at h

/-- A condition on a slot: its number, the value that is wanted, the value that it has. -/
structure Cd where
  slot : Nat
  want : Bool
  p : Bool
def condsOk (cs : List Cd) : Bool := cs.all fun c => c.p == c.want
structure En where
  conds : List Cd
  v : Value
def En.val (e : En) : Value := bif condsOk e.conds then e.v else undef
def lookE : List (Nat × En) → Nat → Option En
  | [], _ => none
  | (k, e) :: E, t => bif Nat.beq k t then some e else lookE E t
def toA (E : List (Nat × En)) : List (Nat × Asn) := E.map fun p => (p.1, fun v _ => v = p.2.val)
theorem lookA_toA : ∀ (E : List (Nat × En)) (t : Nat), lookA (toA E) t = (lookE E t).map fun e => fun v _ => v = e.val := by
  intro E
  induction E with
  | nil => intro t; rfl
  | cons p E ih =>
    obtain ⟨k, e⟩ := p
    intro t
    simp only [toA, List.map_cons, lookA, lookE]
    by_cases h : k = t
    · simp [h]
    · have hb : Nat.beq k t = false := by
        cases hh : Nat.beq k t with
        | false => rfl
        | true => rw [Nat.beq_eq] at hh; exact absurd hh h
      simp only [if_neg h, hb, cond_false]
      exact ih t
def Coh (E : List (Nat × En)) (cs : List Cd) : Prop := ∀ c ∈ cs, ∃ e, lookE E c.slot = some e ∧ e.v = .bool c.p
def CohE (E : List (Nat × En)) : Prop := ∀ t e, lookE E t = some e → Coh E e.conds
def valid (cur : List Cd) (e : En) : Bool := e.conds.all fun c => cur.any fun d => Nat.beq d.slot c.slot && (d.want == c.want)
theorem condsOk_iff {cs : List Cd} : condsOk cs = true ↔ ∀ c ∈ cs, c.p = c.want := by simp [condsOk]
theorem valid_ok {E : List (Nat × En)} {cur : List Cd} {e : En} (hc : Coh E cur) (he : Coh E e.conds) (hv : valid cur e = true) (hk : condsOk cur = true) : condsOk e.conds = true := by
  rw [condsOk_iff] at *
  intro c hcm
  unfold valid at hv
  rw [List.all_eq_true] at hv
  have := hv c hcm
  rw [List.any_eq_true] at this
  obtain ⟨d, hd, hh⟩ := this
  rw [Bool.and_eq_true, Nat.beq_eq] at hh
  obtain ⟨e1, h1, h1'⟩ := hc d hd
  obtain ⟨e2, h2, h2'⟩ := he c hcm
  rw [hh.1, h2] at h1
  cases h1
  rw [h1'] at h2'
  have hp : d.p = c.p := by injection h2'
  have hw : d.want = c.want := by simpa using hh.2
  rw [← hp, ← hw]
  exact hk d hd
def rhoE (E : List (Nat × En)) : Operand → Value
  | .tmp t => match lookE E t with | some e => e.v | none => undef
  | .const v => v
  | .global g => .pointer (some ⟨g, 0, none⟩)
  | .func f => .func (.func f) #[] #[]
def okOperand (E : List (Nat × En)) (cur : List Cd) : Operand → Bool
  | .tmp t => match lookE E t with | some e => valid cur e | none => false
  | _ => true
def guardOf (ops : Array Oper) (E : List (Nat × En)) (o : Oper) : Option (List Cd) :=
  match o.guard with
  | none => some []
  | some (j, want) =>
    match dstAt ops j with
    | none => none
    | some g =>
      match lookE E g with
      | none => none
      | some e => match e.v with | .bool p => some (⟨g, want, p⟩ :: e.conds) | _ => none
inductive Ob where
  | run (cs : List Cd) (s : Sem Value) (v : Value)
  | call (cs : List Cd) (f : FuncId) (args : Array Value) (v : Value)
def Ob.v : Ob → Value
  | .run _ _ v => v
  | .call _ _ _ v => v
def Ob.ok (P : Program) (T : World → World → Prop) (D : World → Prop) : Ob → Prop
  | .run cs s v => condsOk cs = true → ∀ w', D w' → s.run P w' = .ok v w'
  | .call cs f args v => condsOk cs = true → ∀ w', D w' → Calls P f args w' (fun e w'' => e = .returned v ∧ T w' w'')
def Obs (P : Program) (T : World → World → Prop) (D : World → Prop) : List Ob → Prop
  | [] => True
  | o :: l => o.ok P T D ∧ Obs P T D l
def pickV (p : Bool) : Value → Value → Value
  | .bool a, .bool b => .bool (bif p then a else b)
  | x, y => bif p then x else y
theorem pickV_true (x y : Value) : pickV true x y = x := by cases x <;> cases y <;> rfl
theorem pickV_false (x y : Value) : pickV false x y = y := by cases x <;> cases y <;> rfl
def plainOp : Op → Bool
  | .defer _ => false
  | .select .. => false
  | _ => true
/-- Operations whose outcome is told from outside: loads, addresses and parts that may be out of range, quotients. -/
def hintSem (ρ : Operand → Value) : Op → Option (Sem Value)
  | .load t x => some (Instr.loadAt t (ρ x))
  | .indexAddr t x ix => some (Instr.indexAt t (ρ x) (ρ ix))
  | .index t x ix => some (Instr.index t (ρ x) (ρ ix))
  | .slice t x lo hi mx => some (Instr.sliceAt t (ρ x) (lo.map ρ) (hi.map ρ) (mx.map ρ))
  | .binOp .add t x y _ => some (binOp .add t (ρ x) (ρ y))
  | .binOp .sub t x y _ => some (binOp .sub t (ρ x) (ρ y))
  | .binOp .mul t x y _ => some (binOp .mul t (ρ x) (ρ y))
  | .binOp .quo t x y _ => some (binOp .quo t (ρ x) (ρ y))
  | .binOp .rem t x y _ => some (binOp .rem t (ρ x) (ρ y))
  | .convert s t x => some (convert s t (ρ x))
  | _ => none
theorem hintSem_run {P : Program} {ρ : Operand → Value} {o : Oper} {s : Sem Value} {v : Value} {w : World} (h : hintSem ρ o.op = some s) (hr : s.run P w = .ok v w) :
    plainOp o.op = true ∧ (execOp ρ o).run P w = .ok (.value v) w := by
  unfold hintSem at h
  unfold execOp
  split at h <;> rename_i hop <;> simp only [Option.some.injEq, reduceCtorEq] at h <;> (try subst h) <;> rw [hop] <;> refine ⟨rfl, ?_⟩ <;> simp [hr, eqGuard]
def evalPlain (P : Program) (E : List (Nat × En)) (cs : List Cd) (o : Oper) (vs : List Value) : Option (En × List Ob × List Value) :=
  bif o.op.operands.toList.all (okOperand E cs) && plainOp o.op then
    match pureSem P (execOp (rhoE E) o) with
    | some (.value v) => some (⟨cs, v⟩, [], vs)
    | some .skip => some (⟨cs, undef⟩, [], vs)
    | some (.enter f args) => match vs with | v :: vs' => some (⟨cs, v⟩, [.call cs f args v], vs') | [] => none
    | _ => none
  else none
def evalOp (P : Program) (ops : Array Oper) (E : List (Nat × En)) (o : Oper) (vs : List Value) : Option (En × List Ob × List Value) :=
  match guardOf ops E o with
  | none => none
  | some cs =>
    match o.op with
    | .pick (.tmp t) x y =>
      match lookE E t with
      | none => none
      | some ec =>
        match ec.v with
        | .bool p => bif valid cs ec && okOperand E (⟨t, true, p⟩ :: cs) x && okOperand E (⟨t, false, p⟩ :: cs) y then some (⟨cs, pickV p (rhoE E x) (rhoE E y)⟩, [], vs) else none
        | _ => none
    | op =>
      match hintSem (rhoE E) op with
      | some s =>
        bif o.op.operands.toList.all (okOperand E cs) then
          match vs with
          | v :: vs' => some (⟨cs, v⟩, [.run cs s v], vs')
          | [] => none
        else none
      | none => evalPlain P E cs o vs
def freeOf (d : Nat) (cs : List Cd) : Bool := cs.all fun c => !Nat.beq c.slot d
def putE (E : List (Nat × En)) (d : Option Tmp) (e : En) : List (Nat × En) :=
  match d with
  | some d => (d, e) :: E
  | none => E
def dstFree (E : List (Nat × En)) (d : Option Tmp) (e : En) : Bool :=
  match d with
  | some d => freeOf d e.conds && E.all fun p => freeOf d p.2.conds
  | none => true
def evalSeg (P : Program) (ops : Array Oper) : Nat → Nat → List (Nat × En) → List Value → Option (List (Nat × En) × List Ob)
  | 0, _, E, vs => match vs with | [] => some (E, []) | _ => none
  | n + 1, k, E, vs =>
    match ops[k]? with
    | none => none
    | some o =>
      match evalOp P ops E o vs with
      | none => none
      | some (e, ob, vs') =>
        bif dstFree E o.dst e then
          match evalSeg P ops n (k + 1) (putE E o.dst e) vs' with
          | none => none
          | some (E', obs) => some (E', ob ++ obs)
        else none

section
variable {P : Program} {r : Option Nat} {ops : Array Oper} {T : World → World → Prop} {D : World → Prop}
theorem Obs.append : ∀ {a b : List Ob}, Obs P T D (a ++ b) ↔ Obs P T D a ∧ Obs P T D b := by
  intro a
  induction a with
  | nil => intro b; simp [Obs]
  | cons o a ih => intro b; simp [Obs, ih, and_assoc]

theorem eval_operand {E : List (Nat × En)} {cur : List Cd} {a : Act} (hcE : CohE E) (hc : Coh E cur) (hk : condsOk cur = true) {x : Operand} (hx : okOperand E cur x = true)
    (hs : ∀ t, x = .tmp t → ∀ e, lookE E t = some e → a.tmps.getD t undef = e.val) : a.eval x = rhoE E x := by
  cases x with
  | tmp t =>
    simp only [okOperand] at hx
    cases hl : lookE E t with
    | none => rw [hl] at hx; simp at hx
    | some e =>
      rw [hl] at hx
      have := hs t rfl e hl
      simp only [Act.eval, rhoE, hl]
      rw [this]
      simp [En.val, valid_ok hc (hcE t e hl) hx hk]
  | const v => rfl
  | global g => rfl
  | func f => rfl

theorem guard_spec {E : List (Nat × En)} {o : Oper} {cs : List Cd} {a : Act} (hcE : CohE E) (hg : guardOf ops E o = some cs)
    (hs : ∀ t ∈ o.looksAt ops, ∀ e, lookE E t = some e → a.tmps.getD t undef = e.val) : Coh E cs ∧ Region.wanted o (yielded ops a.tmps) = condsOk cs := by
  unfold guardOf at hg
  unfold Region.wanted
  cases hgd : o.guard with
  | none =>
    rw [hgd] at hg
    simp at hg
    subst hg
    exact ⟨fun c hc => by simp at hc, rfl⟩
  | some jw =>
    obtain ⟨j, want⟩ := jw
    rw [hgd] at hg
    simp only at hg
    cases hd : dstAt ops j with
    | none => rw [hd] at hg; simp at hg
    | some g =>
      rw [hd] at hg
      simp only at hg
      cases hl : lookE E g with
      | none => rw [hl] at hg; simp at hg
      | some e =>
        rw [hl] at hg
        simp only at hg
        cases hv : e.v with
        | bool p =>
          rw [hv] at hg
          simp at hg
          subst hg
          have hmem : g ∈ o.looksAt ops := by
            unfold Oper.looksAt
            rw [hgd]
            refine List.mem_append_right _ ?_
            have : (ops[j]?).bind (·.dst) = some g := hd
            simp [this]
          have hval := hs g hmem e hl
          refine ⟨?_, ?_⟩
          · intro c hc
            rcases List.mem_cons.1 hc with rfl | hc
            · exact ⟨e, hl, hv⟩
            · exact hcE g e hl c hc
          · have hy : yielded ops a.tmps j = (match a.tmps[g]? with | some (.bool b) => some b | _ => none) := by
              unfold yielded
              have : (ops[j]?).bind (·.dst) = some g := hd
              rw [this]; rfl
            simp only [hy]
            rw [Array.getD_eq_getD_getElem?] at hval
            have hc2 : condsOk (⟨g, want, p⟩ :: e.conds) = ((p == want) && condsOk e.conds) := rfl
            rw [hc2]
            cases hk : condsOk e.conds with
            | true =>
              have : e.val = .bool p := by simp [En.val, hk, hv]
              rw [this] at hval
              cases hq : a.tmps[g]? with
              | none => rw [hq] at hval; simp [undef] at hval
              | some u =>
                rw [hq] at hval
                simp at hval
                subst hval
                cases p <;> cases want <;> rfl
            | false =>
              have : e.val = undef := by simp [En.val, hk]
              rw [this] at hval
              cases hq : a.tmps[g]? with
              | none => simp
              | some u =>
                rw [hq] at hval
                simp at hval
                subst hval
                simp [undef]
        | _ => rw [hv] at hg; simp at hg

theorem semAt_plain {o : Oper} (h : plainOp o.op = true) (ρ : Operand → Value) : o.semAt r ρ = execOp ρ o :=
  Oper.semAt_eq r ρ o (fun c hc => by rw [hc] at h; simp [plainOp] at h)

theorem evalPlain_spec {E : List (Nat × En)} {o : Oper} {vs vs' : List Value} {e : En} {ob : List Ob} {cs : List Cd} (hT : Trans T) (hcE : CohE E) (hcs : guardOf ops E o = some cs)
    (h : evalPlain P E cs o vs = some (e, ob, vs')) (hob : Obs P T D ob) : e.conds = cs ∧ OpHyp P r ops T D (toA E) o (fun v _ => v = e.val) := by
  unfold evalPlain at h
  cases hc : (o.op.operands.toList.all (okOperand E cs) && plainOp o.op) with
  | false => rw [hc] at h; simp at h
  | true =>
    rw [hc] at h
    simp only [cond_true] at h
    rw [Bool.and_eq_true, List.all_eq_true] at hc
    obtain ⟨hopd, hpl⟩ := hc
    -- the run, where the guard says yes
    have hrun : ∀ (a : Act), (∀ t ∈ o.looksAt ops, ∀ e, lookE E t = some e → a.tmps.getD t undef = e.val) → condsOk cs = true → o.semAt r a.eval = execOp (rhoE E) o := by
      intro a hs hk
      rw [semAt_plain hpl]
      refine execOp_congr o (fun cs' b hh => by rw [hh] at hpl; simp [plainOp] at hpl) ?_
      intro x hx
      refine eval_operand hcE (guard_spec hcE hcs hs).1 hk (hopd x (by simpa using hx)) ?_
      intro t ht e he
      refine hs t ?_ e he
      subst ht
      exact List.mem_append_left _ (List.mem_filterMap.2 ⟨.tmp t, by simpa using hx, rfl⟩)
    have slots : ∀ (a : Act) (w : World), (∀ t ∈ o.looksAt ops, ∀ ψ, lookA (toA E) t = some ψ → ψ (a.tmps.getD t undef) w) → ∀ t ∈ o.looksAt ops, ∀ e, lookE E t = some e → a.tmps.getD t undef = e.val := by
      intro a w h t ht e he
      have := h t ht (fun v _ => v = e.val) (by rw [lookA_toA, he]; rfl)
      exact this
    cases hp : pureSem P (execOp (rhoE E) o) with
    | none => rw [hp] at h; simp at h
    | some x =>
      rw [hp] at h
      have hpr := pureSem_run _ _ hp
      cases x <;> simp only at h <;> try (simp at h; done)
      case value v =>
        simp at h
        obtain ⟨rfl, rfl, rfl⟩ := h
        refine ⟨rfl, fun a w hw hl => ?_⟩
        have hs := slots a w hl
        unfold OpG
        rw [(guard_spec hcE hcs hs).2]
        cases hk : condsOk cs with
        | true => simp only [if_true, OpR, hrun a hs hk, hpr w]; exact ⟨hT.refl w, by simp [En.val, hk]⟩
        | false => simp only [Bool.false_eq_true, if_false]; exact ⟨hT.refl w, by simp [En.val, hk]⟩
      case skip =>
        simp at h
        obtain ⟨rfl, rfl, rfl⟩ := h
        refine ⟨rfl, fun a w hw hl => ?_⟩
        have hs := slots a w hl
        unfold OpG
        rw [(guard_spec hcE hcs hs).2]
        cases hk : condsOk cs with
        | true => simp only [if_true, OpR, hrun a hs hk, hpr w]; exact ⟨hT.refl w, by simp [En.val]⟩
        | false => simp only [Bool.false_eq_true, if_false]; exact ⟨hT.refl w, by simp [En.val]⟩
      case enter f args =>
        cases vs with
        | nil => simp at h
        | cons v vs0 =>
          simp at h
          obtain ⟨rfl, rfl, rfl⟩ := h
          refine ⟨rfl, fun a w hw hl => ?_⟩
          have hs := slots a w hl
          unfold OpG
          rw [(guard_spec hcE hcs hs).2]
          cases hk : condsOk cs with
          | true =>
            simp only [if_true, OpR, hrun a hs hk, hpr w]
            exact Calls.mono (hob.1 hk w hw) (fun e' w'' ⟨h1, h2⟩ => ⟨v, h1, h2, by simp [En.val, hk]⟩)
          | false => simp only [Bool.false_eq_true, if_false]; exact ⟨hT.refl w, by simp [En.val, hk]⟩

theorem evalOp_spec {E : List (Nat × En)} {o : Oper} {vs vs' : List Value} {e : En} {ob : List Ob} (hT : Trans T) (hcE : CohE E) (h : evalOp P ops E o vs = some (e, ob, vs')) (hob : Obs P T D ob) :
    Coh E e.conds ∧ OpHyp P r ops T D (toA E) o (fun v _ => v = e.val) := by
  have slots : ∀ (a : Act) (w : World), (∀ t ∈ o.looksAt ops, ∀ ψ, lookA (toA E) t = some ψ → ψ (a.tmps.getD t undef) w) → ∀ t ∈ o.looksAt ops, ∀ e, lookE E t = some e → a.tmps.getD t undef = e.val := by
    intro a w h t ht e he
    have := h t ht (fun v _ => v = e.val) (by rw [lookA_toA, he]; rfl)
    exact this
  have cohcs : ∀ {cs}, guardOf ops E o = some cs → Coh E cs := by
    intro cs hcs
    -- a frame that holds just what the entries say
    unfold guardOf at hcs
    cases hgd : o.guard with
    | none => rw [hgd] at hcs; simp at hcs; subst hcs; exact fun c hc => by simp at hc
    | some jw =>
      obtain ⟨j, want⟩ := jw
      rw [hgd] at hcs
      simp only at hcs
      cases hd : dstAt ops j with
      | none => rw [hd] at hcs; simp at hcs
      | some g =>
        rw [hd] at hcs
        simp only at hcs
        cases hl : lookE E g with
        | none => rw [hl] at hcs; simp at hcs
        | some e =>
          rw [hl] at hcs
          simp only at hcs
          cases hv : e.v <;> rw [hv] at hcs <;> simp at hcs
          subst hcs
          intro c hc
          rcases List.mem_cons.1 hc with rfl | hc
          · exact ⟨e, hl, hv⟩
          · exact hcE g e hl c hc
  unfold evalOp at h
  cases hcs : guardOf ops E o with
  | none => rw [hcs] at h; simp at h
  | some cs =>
    rw [hcs] at h
    simp only at h
    have opmem : ∀ x t, x ∈ o.op.operands → x = .tmp t → t ∈ o.looksAt ops := by
      intro x t hx ht
      subst ht
      exact List.mem_append_left _ (List.mem_filterMap.2 ⟨.tmp t, by simpa using hx, rfl⟩)
    have plain : evalPlain P E cs o vs = some (e, ob, vs') → Coh E e.conds ∧ OpHyp P r ops T D (toA E) o (fun v _ => v = e.val) := fun h' => by
      have := evalPlain_spec (r := r) hT hcE hcs h' hob
      exact ⟨by rw [this.1]; exact cohcs hcs, this.2⟩
    split at h
    · rename_i t x y hop
      cases hl : lookE E t with
      | none => rw [hl] at h; simp at h
      | some ec =>
        rw [hl] at h
        simp only at h
        cases hv : ec.v <;> rw [hv] at h <;> simp only at h <;> try (simp at h; done)
        rename_i p
        cases hc : (valid cs ec && okOperand E (⟨t, true, p⟩ :: cs) x && okOperand E (⟨t, false, p⟩ :: cs) y) with
        | false => rw [hc] at h; simp at h
        | true =>
          rw [hc] at h
          simp at h
          obtain ⟨rfl, rfl, rfl⟩ := h
          rw [Bool.and_eq_true, Bool.and_eq_true] at hc
          refine ⟨cohcs hcs, fun a w hw hll => ?_⟩
          have hs := slots a w hll
          unfold OpG
          rw [(guard_spec hcE hcs hs).2]
          have hcoh : ∀ b, Coh E (⟨t, b, p⟩ :: cs) := fun b c hcm => by
            rcases List.mem_cons.1 hcm with rfl | hcm
            · exact ⟨ec, hl, hv⟩
            · exact cohcs hcs c hcm
          cases hk : condsOk cs with
          | false => simp only [Bool.false_eq_true, if_false]; exact ⟨hT.refl w, by simp [En.val, hk]⟩
          | true =>
            have hopx : x ∈ o.op.operands := by rw [hop]; simp [Op.operands]
            have hopy : y ∈ o.op.operands := by rw [hop]; simp [Op.operands]
            have hopt : Operand.tmp t ∈ o.op.operands := by rw [hop]; simp [Op.operands]
            have hct : a.eval (.tmp t) = .bool p := by
              have := eval_operand (x := .tmp t) (a := a) hcE (cohcs hcs) hk (by simp [okOperand, hl, hc.1.1]) (fun t' ht' e' he' => hs t' (opmem _ _ hopt ht') e' he')
              rw [this]; simp [rhoE, hl, hv]
            have hsem : o.semAt r a.eval = execOp a.eval o := semAt_plain (by rw [hop]; rfl) _
            simp only [if_true, OpR, hsem]
            unfold execOp
            rw [hop]
            simp only [hct]
            cases p with
            | true =>
              have hx := eval_operand (a := a) hcE (hcoh true) (by simp [condsOk] at hk ⊢; exact hk) hc.1.2 (fun t' ht' e' he' => hs t' (opmem _ _ hopx ht') e' he')
              exact ⟨hT.refl w, by simp [En.val, hk, pickV_true, hx]⟩
            | false =>
              have hy := eval_operand (a := a) hcE (hcoh false) (by simp [condsOk] at hk ⊢; exact hk) hc.2 (fun t' ht' e' he' => hs t' (opmem _ _ hopy ht') e' he')
              exact ⟨hT.refl w, by simp [En.val, hk, pickV_false, hy]⟩
    · cases hh : hintSem (rhoE E) o.op with
      | none => rw [hh] at h; exact plain h
      | some s =>
        rw [hh] at h
        simp only at h
        cases hc : o.op.operands.toList.all (okOperand E cs) with
        | false => rw [hc] at h; simp at h
        | true =>
          rw [hc] at h
          simp only [cond_true] at h
          rw [List.all_eq_true] at hc
          cases vs with
          | nil => simp at h
          | cons v vs0 =>
            simp at h
            obtain ⟨rfl, rfl, rfl⟩ := h
            refine ⟨cohcs hcs, fun a w hw hll => ?_⟩
            have hs := slots a w hll
            unfold OpG
            rw [(guard_spec hcE hcs hs).2]
            cases hk : condsOk cs with
            | false => simp only [Bool.false_eq_true, if_false]; exact ⟨hT.refl w, by simp [En.val, hk]⟩
            | true =>
              have hld := hintSem_run hh (hob.1 hk w hw)
              have hcong : execOp a.eval o = execOp (rhoE E) o := by
                refine execOp_congr o (fun cs' b hh' => by have := hld.1; rw [hh'] at this; simp [plainOp] at this) ?_
                intro x hx
                exact eval_operand hcE (cohcs hcs) hk (hc x (by simpa using hx)) (fun t' ht' e' he' => hs t' (opmem _ _ hx ht') e' he')
              simp only [if_true, OpR, semAt_plain hld.1, hcong, hld.2]
              exact ⟨hT.refl w, by simp [En.val, hk]⟩

theorem freeOf_spec {d : Nat} {cs : List Cd} (h : freeOf d cs = true) : ∀ c ∈ cs, c.slot ≠ d := by
  intro c hc e
  unfold freeOf at h
  rw [List.all_eq_true] at h
  have := h c hc
  rw [e] at this
  simp at this
theorem lookE_mem : ∀ {E : List (Nat × En)} {t : Nat} {e : En}, lookE E t = some e → (t, e) ∈ E := by
  intro E
  induction E with
  | nil => intro t e h; simp [lookE] at h
  | cons p E ih =>
    obtain ⟨k, e0⟩ := p
    intro t e h
    simp only [lookE] at h
    cases hb : Nat.beq k t with
    | true => rw [hb] at h; simp at h; rw [Nat.beq_eq] at hb; subst hb; subst h; exact List.mem_cons_self ..
    | false => rw [hb] at h; simp at h; exact List.mem_cons_of_mem _ (ih h)
theorem coh_put {E : List (Nat × En)} {d : Option Tmp} {e : En} (h : CohE E) (he : Coh E e.conds) (hf : dstFree E d e = true) : CohE (putE E d e) := by
  cases d with
  | none => exact h
  | some d =>
    unfold dstFree at hf
    rw [Bool.and_eq_true, List.all_eq_true] at hf
    have lift : ∀ cs, Coh E cs → (∀ c ∈ cs, c.slot ≠ d) → Coh (putE E (some d) e) cs := by
      intro cs hcs hfree c hc
      obtain ⟨e', h1, h2⟩ := hcs c hc
      refine ⟨e', ?_, h2⟩
      simp only [putE, lookE]
      have : Nat.beq d c.slot = false := by
        cases hb : Nat.beq d c.slot with
        | false => rfl
        | true => rw [Nat.beq_eq] at hb; exact absurd hb.symm (hfree c hc)
      rw [this]; exact h1
    intro t e' hl
    simp only [putE, lookE] at hl
    cases hb : Nat.beq d t with
    | true => rw [hb] at hl; simp at hl; subst hl; exact lift _ he (freeOf_spec hf.1)
    | false => rw [hb] at hl; simp at hl; exact lift _ (h t e' hl) (freeOf_spec (hf.2 _ (lookE_mem hl)))
theorem toA_put (E : List (Nat × En)) (d : Option Tmp) (e : En) : toA (putE E d e) = pushA (toA E) d (fun v _ => v = e.val) := by cases d <;> rfl

theorem evalSeg_spec (hT : Trans T) : ∀ (n k : Nat) (E E' : List (Nat × En)) (vs : List Value) (obs : List Ob), evalSeg P ops n k E vs = some (E', obs) → CohE E → Obs P T D obs →
    ∃ Φ : List Asn, Φ.length = n ∧ Seg P r ops T D Φ k (toA E) ∧ (∀ φ ∈ Φ, Stab T φ) ∧ envL ops Φ k (toA E) = toA E' := by
  intro n
  induction n with
  | zero =>
    intro k E E' vs obs h _ _
    cases vs with
    | nil => simp [evalSeg] at h; exact ⟨[], rfl, trivial, fun _ hφ => by simp at hφ, by rw [h.1]; rfl⟩
    | cons => simp [evalSeg] at h
  | succ n ih =>
    intro k E E' vs obs h hc hob
    simp only [evalSeg] at h
    cases ho : ops[k]? with
    | none => rw [ho] at h; simp at h
    | some o =>
      rw [ho] at h
      simp only at h
      cases hev : evalOp P ops E o vs with
      | none => rw [hev] at h; simp at h
      | some x =>
        obtain ⟨e, ob, vs'⟩ := x
        rw [hev] at h
        simp only at h
        cases hf : dstFree E o.dst e with
        | false => rw [hf] at h; simp at h
        | true =>
          rw [hf] at h
          simp only [cond_true] at h
          cases hr : evalSeg P ops n (k + 1) (putE E o.dst e) vs' with
          | none => rw [hr] at h; simp at h
          | some y =>
            obtain ⟨E1, obs1⟩ := y
            rw [hr] at h
            simp at h
            obtain ⟨rfl, rfl⟩ := h
            rw [Obs.append] at hob
            obtain ⟨h1, h2⟩ := evalOp_spec (r := r) hT hc hev hob.1
            obtain ⟨Φ, hl, hseg, hst, henv⟩ := ih (k + 1) _ _ _ _ hr (coh_put hc h1 hf) hob.2
            have hd : dstAt ops k = o.dst := by simp [dstAt, ho]
            rw [toA_put] at hseg henv
            refine ⟨(fun v _ => v = e.val) :: Φ, by simp [hl], ⟨by rw [ho]; exact ⟨h2, fun _ _ => trivial⟩, by rw [hd]; exact hseg⟩, ?_, ?_⟩
            · intro φ hφ
              rcases List.mem_cons.1 hφ with rfl | hφ
              · exact fun _ _ _ hv _ => hv
              · exact hst φ hφ
            · simp only [envL, hd]; exact henv
end

/-! ### Frames, slot by slot -/
structure Fr (N : Nat) (ds : List Deferred) (M : List (Nat × Value)) (a : Act) : Prop where
  size : a.tmps.size = N
  defers : a.defers = ds
  slot : ∀ p ∈ M, a.tmps.getD p.1 undef = p.2
def ofM (M : List (Nat × Value)) : List (Nat × En) := M.map fun p => (p.1, ⟨[], p.2⟩)
theorem lookE_ofM {M : List (Nat × Value)} {t : Nat} {e : En} (h : lookE (ofM M) t = some e) : e.conds = [] ∧ (t, e.v) ∈ M := by
  have := lookE_mem h
  unfold ofM at this
  obtain ⟨p, hp, he⟩ := List.mem_map.1 this
  obtain ⟨rfl, rfl⟩ := Prod.mk.inj he
  exact ⟨rfl, hp⟩
theorem coh_ofM (M : List (Nat × Value)) : CohE (ofM M) := fun t e h c hc => by rw [(lookE_ofM h).1] at hc; simp at hc
theorem envOk_ofM {N : Nat} {ds : List Deferred} {M : List (Nat × Value)} {a : Act} (h : Fr N ds M a) (w : World) : EnvOk (toA (ofM M)) a w := by
  intro t ψ ht
  rw [lookA_toA] at ht
  cases hl : lookE (ofM M) t with
  | none => rw [hl] at ht; simp at ht
  | some e =>
    rw [hl] at ht
    simp at ht
    subst ht
    obtain ⟨h1, h2⟩ := lookE_ofM hl
    have := h.slot _ h2
    simp only at this
    rw [this]
    simp [En.val, h1, condsOk]
theorem stab_toA (T : World → World → Prop) (E : List (Nat × En)) : ∀ t ψ, lookA (toA E) t = some ψ → Stab T ψ := by
  intro t ψ ht
  rw [lookA_toA] at ht
  cases hl : lookE E t with
  | none => rw [hl] at ht; simp at ht
  | some e => rw [hl] at ht; simp at ht; subst ht; exact fun _ _ _ hv _ => hv
/-- The segment's outcome: each slot of M' holds what M' says. -/
structure Ends (P : Program) (ops : Array Oper) (n k : Nat) (M M' : List (Nat × Value)) (obs : List Ob) : Prop where
  eq : ((evalSeg P ops n k (ofM M) (obs.map Ob.v)).map fun x => (M'.map (fun p => lookE x.1 p.1), x.2)) = some (M'.map (fun p => some ⟨[], p.2⟩), obs)
section
variable {P : Program} {r : Option Nat} {ops : Array Oper} {T : World → World → Prop} {Q : Exit → Act → World → Prop} {N : Nat} {ds : List Deferred} {M M' : List (Nat × Value)} {a : Act} {w : World} {obs : List Ob}
theorem ends_spec {n k : Nat} (hT : Trans T) (h : Ends P ops n k M M' obs) (D : World → Prop) (hob : Obs P T D obs) : ∃ (Φ : List Asn), Φ.length = n ∧ Seg P r ops T D Φ k (toA (ofM M)) ∧ (∀ φ ∈ Φ, Stab T φ) ∧
    ∀ a' w', a'.tmps.size = N → a'.defers = ds → EnvOk (envL ops Φ k (toA (ofM M))) a' w' → Fr N ds M' a' := by
  have h := h.eq
  cases hev : evalSeg P ops n k (ofM M) (obs.map Ob.v) with
  | none => rw [hev] at h; simp at h
  | some x =>
    obtain ⟨E', obs'⟩ := x
    rw [hev] at h
    simp only [Option.map_some, Option.some.injEq, Prod.mk.injEq] at h
    obtain ⟨h1, rfl⟩ := h
    obtain ⟨Φ, hl, hseg, hst, henv⟩ := evalSeg_spec (r := r) hT n k _ _ _ _ hev (coh_ofM M) hob
    refine ⟨Φ, hl, hseg, hst, fun a' w' hN hd hE => ⟨hN, hd, ?_⟩⟩
    intro p hp
    rw [henv] at hE
    have hlk : lookE E' p.1 = some ⟨[], p.2⟩ := List.map_inj_left.1 h1 p hp
    have := hE p.1 (fun v _ => v = (⟨[], p.2⟩ : En).val) (by rw [lookA_toA, hlk]; rfl)
    simpa [En.val, condsOk] using this
/-- Operations number k to k + n - 1, in the text's order; only loads and reckoning: the world is as it was. -/
theorem run_ {n k : Nat} (k' : Nat) (M' : List (Nat × Value)) (hF : Fr N ds M a) (hdst : dstOk ops N = true) (hob : Obs P (fun a b => b = a) (fun x => x = w) obs) (h : Ends P ops n k M M' obs) (hk : k + n = k')
    (next : ∀ a', Fr N ds M' a' → WI P r ops Q k' a' w) : WI P r ops Q k a w := by
  obtain ⟨Φ, hl, hseg, hst, hfin⟩ := ends_spec (r := r) (N := N) (ds := ds) trans_eq h (fun x => x = w) hob
  refine seg_seq trans_eq (fun _ _ h k => k.trans h) hdst Φ k _ a w hseg hst (stab_toA _ _) rfl hF.size (envOk_ofM hF w) ?_
  intro a' w' hw hN hd hE
  subst hw
  rw [hl, hk]
  exact next a' (hfin a' w' hN (hd.trans hF.defers) hE)
/-- The same with calls that leave all that lay as it was. -/
theorem runX {n k : Nat} (k' : Nat) (M' : List (Nat × Value)) (hF : Fr N ds M a) (hdst : dstOk ops N = true) (hob : Obs P Ext (Ext w) obs) (h : Ends P ops n k M M' obs) (hk : k + n = k')
    (next : ∀ a' w', Fr N ds M' a' → Ext w w' → WI P r ops Q k' a' w') : WI P r ops Q k a w := by
  obtain ⟨Φ, hl, hseg, hst, hfin⟩ := ends_spec (r := r) (N := N) (ds := ds) trans_ext h (Ext w) hob
  refine seg_seq trans_ext (fun _ _ h k => h.trans k) hdst Φ k _ a w hseg hst (stab_toA _ _) (Ext.refl w) hF.size (envOk_ofM hF w) ?_
  intro a' w' hw hN hd hE
  rw [hl, hk]
  exact next a' w' (hfin a' w' hN (hd.trans hF.defers) hE) hw
theorem ext_drew (w : World) : Ext w { w with drawn := w.drawn + 1 } := ⟨rfl, rfl, rfl, Nat.le_refl _, fun _ _ => rfl⟩
/-- A region that draws its order: its first m operations in whatever order, then those that must come last. -/
theorem runD {id : Nat} (m : Nat) (M' : List (Nat × Value)) (hmo : P.follows .mixedOrders = true) (hF : Fr N ds M a) (hck : (dstOk ops N && ordOk ops m && tailOk ops m && edgesOk ops && Nat.ble m ops.size) = true) (hob : Obs P Ext (Ext w) obs)
    (h : Ends P ops m 0 M M' obs) (next : ∀ a' w', Fr N ds M' a' → Ext w w' → WI P r ops Q m a' w') : WP P r (.region id ops true) Q a w := by
  rw [Bool.and_eq_true, Bool.and_eq_true, Bool.and_eq_true, Bool.and_eq_true] at hck
  obtain ⟨⟨⟨⟨h1, h2⟩, h3⟩, h4⟩, h5⟩ := hck
  have hw1 := ext_drew w
  obtain ⟨Φ, hl, hseg, hst, hfin⟩ := ends_spec (r := r) (N := N) (ds := ds) trans_ext h (Ext w) hob
  refine region_any (fun _ _ h k => Ext.trans h k) hmo h1 h2 h3 h4 hl (Nat.le_of_ble_eq_true h5) hseg hst (stab_toA _ _) hF.size (envOk_ofM hF _) hw1 ?_
  intro a' w' hw hN hd hE
  exact next a' w' (hfin a' w' hN (hd.trans hF.defers) hE) hw
end
end Go.Eng
