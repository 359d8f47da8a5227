/- The engine, part 4: rules of code, resources of a call's own, operations that make or write memory, readings. -/
import Derived.Test.YtejffembnkojjaaEng3
import Derived.Laws.OwnMore
import Derived.Laws.MakeOwn
import Derived.Defers
namespace Go.Eng
open Go Go.RowKit

/-! ### Code -/
section
variable {P : Program} {r : Option Nat} {Q : Exit → Act → World → Prop} {K : Act → World → Prop} {a : Act} {w : World} {N : Nat} {ds : List Deferred} {M : List (Nat × Value)}
theorem norm_then (h : K a w) : Exit.then K Q .normal a w := h
theorem norm_block {id : Nat} (h : Q .normal a w) : Exit.inBlock id Q .normal a w := h
theorem ret_then (h : Q .ret a w) : Exit.then K Q .ret a w := h
theorem ret_block {id : Nat} (h : Q .ret a w) : Exit.inBlock id Q .ret a w := h
theorem exit_then {id : Nat} (h : Q (.exit id) a w) : Exit.then K Q (.exit id) a w := h
theorem exit_hit {id : Nat} (h : Q .normal a w) : Exit.inBlock id Q (.exit id) a w := by simpa [Exit.inBlock] using h
theorem exit_miss {id id' : Nat} (hne : Nat.beq id' id = false) (h : Q (.exit id') a w) : Exit.inBlock id Q (.exit id') a w := by
  have : id' ≠ id := fun e => by rw [e] at hne; simp at hne
  simpa [Exit.inBlock, this] using h
theorem panic_then {c : List PanicEntry} (h : Q (.panic c) a w) : Exit.then K Q (.panic c) a w := h
theorem panic_block {id : Nat} {c : List PanicEntry} (h : Q (.panic c) a w) : Exit.inBlock id Q (.panic c) a w := h
theorem WI.fin {ops : Array Oper} {k : Nat} (hk : Nat.beq k ops.size = true) (h : Q .normal a w) : WI P r ops Q k a w := by
  rw [Nat.beq_eq] at hk
  rw [hk]
  exact WI.nil h
theorem eseq {x y : Code} (h : WP P r x (Exit.then (fun a w => WP P r y Q a w) Q) a w) : WP P r (.seq x y) Q a w := wpIn_seq h
theorem ecut {x y : Code} (K : Act → World → Prop) (h : WP P r x (Exit.then K Q) a w) (hk : ∀ a w, K a w → WP P r y Q a w) : WP P r (.seq x y) Q a w :=
  wpIn_seq (wpIn_mono h fun e a w q => by cases e <;> first | exact hk _ _ q | exact q)
def lookM : List (Nat × Value) → Nat → Option Value
  | [], _ => none
  | (k, v) :: M, t => bif Nat.beq k t then some v else lookM M t
theorem lookM_mem : ∀ {M : List (Nat × Value)} {t : Nat} {v : Value}, lookM M t = some v → (t, v) ∈ M := by
  intro M
  induction M with
  | nil => intro t v h; simp [lookM] at h
  | cons p M ih =>
    obtain ⟨k, v0⟩ := p
    intro t v h
    simp only [lookM] at h
    cases hb : Nat.beq k t with
    | true => rw [hb] at h; simp at h; rw [Nat.beq_eq] at hb; subst hb; subst h; exact List.mem_cons_self ..
    | false => rw [hb] at h; simp at h; exact List.mem_cons_of_mem _ (ih h)
theorem Fr.get (h : Fr N ds M a) {t : Nat} {v : Value} (hl : lookM M t = some v) : a.tmps.getD t undef = v := h.slot _ (lookM_mem hl)
/-- Fewer slots, or the same ones by equal values. -/
theorem Fr.sub {M' : List (Nat × Value)} (h : Fr N ds M a) (hs : M'.map (fun p => lookM M p.1) = M'.map (fun p => some p.2)) : Fr N ds M' a :=
  ⟨h.size, h.defers, fun p hp => h.get (List.map_inj_left.1 hs p hp)⟩
theorem Fr.eqv {t : Nat} {v v' : Value} (h : Fr N ds M a) (hl : lookM M t = some v) (e : v = v') : Fr N ds ((t, v') :: M) a :=
  ⟨h.size, h.defers, fun p hp => by
    rcases List.mem_cons.1 hp with rfl | hp
    · exact e ▸ h.get hl
    · exact h.slot p hp⟩
theorem econd {c : Nat} {x y : Code} {t : Bool} (hF : Fr N ds M a) (hl : lookM M c = some (.bool t)) (ht : t = true → WP P r x Q a w) (hf : t = false → WP P r y Q a w) : WP P r (.cond (.tmp c) x y) Q a w :=
  wpIn_cond_split (t := t) (hF.get hl) ht hf
theorem eloop {c : Code} (I : Nat → Act → World → Prop) (n0 : Nat) (h0 : I n0 a w)
    (round : ∀ n a w, I n a w → WP P r c (Exit.then (fun a' w' => ∃ n', n' < n ∧ I n' a' w') Q) a w) : WP P r (.loop c) Q a w := by
  intro b k cs hro hb hr
  have key : ∀ n a w, I n a w → ∃ e a' w', Q e a' w' ∧ ArrivesIn (Machine.fenced P (F0 r)) P (lone (b.atR a (.code c :: .inLoop c :: k)) cs w) b k cs e a' w' := by
    intro n
    induction n using Nat.strongRecOn with
    | _ n ih =>
      intro a w hI
      obtain ⟨e, a₁, w₁, hq, harr⟩ := round n a w hI b (.inLoop c :: k) cs hro hb hr
      cases e with
      | normal =>
        obtain ⟨n', hlt, hI₁⟩ := hq
        obtain ⟨e₂, a₂, w₂, hq₂, harr₂⟩ := ih n' hlt a₁ w₁ hI₁
        exact ⟨e₂, a₂, w₂, hq₂, .of_steps (StepsIn.trans harr (.one (fenced_F0 _ _ _) stepR_inLoop)) harr₂⟩
      | exit id => exact ⟨_, a₁, w₁, hq, .pass (x := .inLoop c) rfl (fun _ _ => .inl (by simp)) harr⟩
      | goto l => exact ⟨_, a₁, w₁, hq, .pass (x := .inLoop c) rfl (fun _ _ => .inl (by simp)) harr⟩
      | ret => exact ⟨_, a₁, w₁, hq, .pass (x := .inLoop c) rfl (fun _ _ => .inl (by simp)) harr⟩
      | panic ch => exact ⟨_, a₁, w₁, hq, .pass (x := .inLoop c) rfl (fun _ _ => .inl (by simp)) harr⟩
      | outgrown => exact ⟨_, a₁, w₁, hq, .pass (x := .inLoop c) rfl (fun _ _ => .inl (by simp)) harr⟩
  obtain ⟨e, a', w', hq, harr⟩ := key n0 a w h0
  exact ⟨e, a', w', hq, .of_steps (.one (fenced_F0 _ _ _) stepR_loop) harr⟩
theorem fn_enter {f : FuncId} {fn : Func} {c : Code} {args : Array Value} {R : Ending → World → Prop} (hf : P.funcs[f]? = some fn) (hb : fn.body = some c) (N : Nat) (M : List (Nat × Value)) (hN : fn.ntmps = N)
    (hsz : Nat.ble args.size N = true) (hM : M.map (fun p => (args ++ Array.replicate (N - args.size) undef).getD p.1 undef) = M.map Prod.snd) (h : ∀ a, Fr N [] M a → WP P none c (bodyPost P fn R) a w) : Calls P f args w R := by
  refine callsIn_F0 (r := none) (n := 0) |>.1 (callsIn_of_wp hf hb trivial ?_ rfl)
  refine h _ ⟨?_, rfl, fun p hp => ?_⟩
  · have := Nat.le_of_ble_eq_true hsz
    simp [hN]; omega
  · rw [hN]; exact List.map_inj_left.1 hM p hp
/-- The results, one after the other: slots, or variables in memory. -/
def ResOk (P : Program) (w : World) (M : List (Nat × Value)) : List ResultVar → List Value → Prop
  | [], [] => True
  | .tmp t :: rs, v :: vs => lookM M t = some v ∧ ResOk P w M rs vs
  | .cell p ty :: rs, v :: vs => (∃ ad, lookM M p = some (.pointer (some ad)) ∧ (loadVar ty ad).run P w = .ok v w) ∧ ResOk P w M rs vs
  | _, _ => False
def resVal (tmps : Array Value) : ResultVar → Sem Value
  | .tmp t => pure (tmps.getD t undef)
  | .cell p t => do loadVar t (← asAddr (tmps.getD p undef))
theorem resOk_run : ∀ (rs : List ResultVar) (vs : List Value), ResOk P w M rs vs → Fr N ds M a → (rs.mapM (resVal a.tmps)).run P w = .ok vs w := by
  intro rs
  induction rs with
  | nil => intro vs h _; cases vs with | nil => simp | cons => exact h.elim
  | cons x rs ih =>
    intro vs h hF
    cases vs with
    | nil => cases x <;> exact h.elim
    | cons v vs =>
      rw [List.mapM_cons]
      have hx : (resVal a.tmps x).run P w = .ok v w ∧ ResOk P w M rs vs := by
        cases x with
        | tmp t =>
          obtain ⟨h1, h2⟩ := h
          refine ⟨?_, h2⟩
          simp only [resVal]
          rw [hF.get h1]
          rfl
        | cell p ty =>
          obtain ⟨⟨ad, h1, h1'⟩, h2⟩ := h
          refine ⟨?_, h2⟩
          simp only [resVal]
          rw [hF.get h1]
          simp [asAddr, h1']
      rw [Sem.run_bind, hx.1, Result.andThen_ok, Sem.run_bind, ih vs hx.2 hF]
      simp
theorem fn_ret {fn : Func} {R : Ending → World → Prop} (rs : List ResultVar) (vs : List Value) (hF : Fr N [] M a) (hrs : fn.results = rs.toArray) (h : ResOk P w M rs vs)
    (hR : R (.returned (match vs with | [v] => v | _ => .tuple vs.toArray)) w) : bodyPost P fn R .ret a w := by
  refine ⟨hF.defers, _, ?_, hR⟩
  have hm := resOk_run (a := a) rs vs h hF
  have e : results fn a.tmps = (do let vs ← fn.results.mapM (resVal a.tmps); pure (if h : vs.size = 1 then vs[0] else .tuple vs)) := by
    unfold results
    congr 1
  rw [e, hrs, List.mapM_toArray]
  simp [hm]
  rcases vs with _ | ⟨v, _ | ⟨u, vs⟩⟩ <;> simp
theorem fn_end {fn : Func} {R : Ending → World → Prop} (hF : Fr N [] M a) (hrs : fn.results = #[]) (hR : R (.returned (.tuple #[])) w) : bodyPost P fn R .normal a w := by
  refine ⟨hF.defers, _, ?_, hR⟩
  simp [results, hrs]
end

/-! ### What a call owns -/
def Blk (w : World) (b : Nat) (t : TypeId) (cs : Array Value) : Prop := w.heap[b]? = some (.cells cs t (0, 0))
structure Res where
  foot : Nat → Prop
  holds : World → Prop
  loc : ∀ w w', (∀ b, foot b → w'.heap[b]? = w.heap[b]?) → holds w → holds w'
  lt : ∀ w b, holds w → foot b → b < w.heap.size
def blk (b : Nat) (t : TypeId) (cs : Array Value) : Res where
  foot := fun k => k = b
  holds := fun w => Blk w b t cs
  loc := fun w w' h hb => (h b rfl).trans hb
  lt := fun w k hb hk => by subst hk; exact (Array.getElem?_eq_some_iff.1 hb).1
def vec (v : Value) (e : TypeId) (sz n : Nat) (xs : List Value) : Res where
  foot := fun k => v.ownBlock = some k
  holds := fun w => w.ownsRow 0 e sz v n xs
  loc := fun w w' h hb => by
    refine ⟨hb.1, ?_⟩
    rcases hb.2 with hn | ⟨g, cap, cur, rfl, hz, hg, rest⟩
    · exact .inl hn
    · exact .inr ⟨g, cap, cur, rfl, hz, (h g rfl).trans hg, rest⟩
  lt := fun w k hb hk => (hb.lt k hk).2
structure St (w0 : World) (H : List Res) (w : World) : Prop where
  ext : Ext w0 w
  holds : ∀ R ∈ H, R.holds w
  low : ∀ R ∈ H, ∀ b, R.foot b → w0.heap.size ≤ b
  apart : H.Pairwise fun R S => ∀ b, R.foot b → ¬ S.foot b
section
variable {w0 w w' : World} {H : List Res}
theorem St.init (w : World) : St w [] w := ⟨Ext.refl w, fun _ h => by simp at h, fun _ h => by simp at h, .nil⟩
theorem Res.later {R : Res} (h : R.holds w) (hx : Ext w w') : R.holds w' := R.loc w w' (fun b hb => Below.block hx b (R.lt w b h hb)) h
theorem St.later (h : St w0 H w) (hx : Ext w w') : St w0 H w' := ⟨h.ext.trans hx, fun R hR => Res.later (h.holds R hR) hx, h.low, h.apart⟩
theorem St.push {R : Res} (h : St w0 H w) (hx : Ext w w') (hR : R.holds w') (hf : ∀ b, R.foot b → w.heap.size ≤ b) : St w0 (R :: H) w' := by
  have h' := h.later hx
  refine ⟨h'.ext, fun S hS => ?_, fun S hS b hb => ?_, ?_⟩
  · rcases List.mem_cons.1 hS with rfl | hS
    · exact hR
    · exact h'.holds S hS
  · rcases List.mem_cons.1 hS with rfl | hS
    · exact Nat.le_trans h.ext.size (hf b hb)
    · exact h'.low S hS b hb
  · refine List.pairwise_cons.2 ⟨fun S hS b hb hb' => ?_, h'.apart⟩
    have := S.lt w b (h.holds S hS) hb'
    have := hf b hb
    omega
theorem St.sub {H' : List Res} (h : St w0 H w) (hs : H'.Sublist H) : St w0 H' w :=
  ⟨h.ext, fun R hR => h.holds R (hs.subset hR), fun R hR => h.low R (hs.subset hR), h.apart.sublist hs⟩
theorem St.perm {H' : List Res} (h : St w0 H w) (hp : H.Perm H') : St w0 H' w :=
  ⟨h.ext, fun R hR => h.holds R (hp.mem_iff.2 hR), fun R hR => h.low R (hp.mem_iff.2 hR), (hp.pairwise_iff (fun hxy b h1 h2 => hxy b h2 h1)).1 h.apart⟩
theorem St.drop1 {R : Res} (h : St w0 (R :: H) w) : St w0 H w := h.sub (List.sublist_cons_self ..)
/-- One resource is changed; besides it there are new blocks alone. -/
theorem St.upd {i : Nat} {R R' : Res} (h : St w0 H w) (hi : H[i]? = some R) (hos : w'.os = w.os) (htp : w'.tape = w.tape) (hout : w'.output = w.output) (hsz : w.heap.size ≤ w'.heap.size)
    (hb : ∀ k, k < w.heap.size → ¬ R.foot k → w'.heap[k]? = w.heap[k]?) (hR' : R'.holds w') (hf : ∀ k, R'.foot k → R.foot k ∨ w.heap.size ≤ k) : St w0 (H.set i R') w' := by
  have hmem : R ∈ H := List.mem_of_getElem? hi
  have hilt : i < H.length := (List.getElem?_eq_some_iff.1 hi).1
  have other : ∀ j S, j ≠ i → H[j]? = some S → ∀ k, S.foot k → ¬ R.foot k := by
    intro j S hj hS k hk hRk
    have hjl : j < H.length := (List.getElem?_eq_some_iff.1 hS).1
    have e1 : H[j] = S := (List.getElem?_eq_some_iff.1 hS).2
    have e2 : H[i] = R := (List.getElem?_eq_some_iff.1 hi).2
    rcases Nat.lt_or_gt_of_ne hj with hlt | hgt
    · have := List.pairwise_iff_getElem.1 h.apart j i hjl hilt hlt
      rw [e1, e2] at this; exact this k hk hRk
    · have := List.pairwise_iff_getElem.1 h.apart i j hilt hjl hgt
      rw [e1, e2] at this; exact this k hRk hk
  have getset : ∀ S, S ∈ H.set i R' → S = R' ∨ ∃ j, j ≠ i ∧ H[j]? = some S := by
    intro S hS
    obtain ⟨j, hj⟩ := List.mem_iff_getElem?.1 hS
    by_cases hji : j = i
    · subst hji; rw [List.getElem?_set_self hilt] at hj; exact .inl (by cases hj; rfl)
    · rw [List.getElem?_set_ne (Ne.symm hji)] at hj; exact .inr ⟨j, hji, hj⟩
  refine ⟨?_, ?_, ?_, ?_⟩
  · refine ⟨hos.trans h.ext.os, htp.trans h.ext.tape, hout.trans h.ext.output, Nat.le_trans h.ext.size hsz, fun k hk => ?_⟩
    have hk' : k < w.heap.size := Nat.lt_of_lt_of_le hk h.ext.size
    exact (hb k hk' (fun hRk => by have := h.low R hmem k hRk; omega)).trans (Below.block h.ext k hk)
  · intro S hS
    rcases getset S hS with rfl | ⟨j, hji, hj⟩
    · exact hR'
    · have hS' := h.holds S (List.mem_of_getElem? hj)
      exact S.loc w w' (fun k hk => hb k (S.lt w k hS' hk) (other j S hji hj k hk)) hS'
  · intro S hS k hk
    rcases getset S hS with rfl | ⟨j, hji, hj⟩
    · rcases hf k hk with h1 | h1
      · exact h.low R hmem k h1
      · exact Nat.le_trans h.ext.size h1
    · exact h.low S (List.mem_of_getElem? hj) k hk
  · rw [List.pairwise_iff_getElem]
    intro p q hp hq hpq k hk hk'
    have hp' : p < H.length := by simpa using hp
    have hq' : q < H.length := by simpa using hq
    have clash : ∀ j S, j ≠ i → H[j]? = some S → S.foot k → R'.foot k → False := by
      intro j S hji hj hSk hRk
      rcases hf k hRk with h1 | h1
      · exact other j S hji hj k hSk h1
      · have := S.lt w k (h.holds S (List.mem_of_getElem? hj)) hSk; omega
    by_cases hpi : p = i
    · subst hpi
      have hqp : q ≠ p := by omega
      rw [List.getElem_set_self] at hk
      rw [List.getElem_set_ne (Ne.symm hqp)] at hk'
      exact clash q H[q] hqp (List.getElem?_eq_getElem hq') hk' hk
    · rw [List.getElem_set_ne (Ne.symm hpi)] at hk
      by_cases hqi : q = i
      · subst hqi
        rw [List.getElem_set_self] at hk'
        exact clash p H[p] hpi (List.getElem?_eq_getElem hp') hk hk'
      · rw [List.getElem_set_ne (Ne.symm hqi)] at hk'
        exact List.pairwise_iff_getElem.1 h.apart p q hp' hq' hpq k hk hk'
theorem St.cell {i j b : Nat} {t : TypeId} {cs : Array Value} {v : Value} (h : St w0 H w) (hi : H[i]? = some (blk b t cs)) (hj : cs[j]? = some v) : w.cell? ⟨b, j, none⟩ = some v := by
  have : Blk w b t cs := h.holds _ (List.mem_of_getElem? hi)
  rw [cell_of_row w b j cs t (0, 0) this]; exact hj
theorem St.vec {i : Nat} {v : Value} {e : TypeId} {sz n : Nat} {xs : List Value} (h : St w0 H w) (hi : H[i]? = some (vec v e sz n xs)) : w.ownsRow 0 e sz v n xs := h.holds _ (List.mem_of_getElem? hi)
theorem St.blk {i b : Nat} {t : TypeId} {cs : Array Value} (h : St w0 H w) (hi : H[i]? = some (blk b t cs)) : Blk w b t cs := h.holds _ (List.mem_of_getElem? hi)
end

/-! ### Readings of slices -/
/-- A slice of n elements of sz cells each, whose cells are xs. -/
def Sl (w : World) (sz : Nat) (v : Value) (n : Nat) (xs : List Value) : Prop :=
  ∃ ad cap, v = .slice ad n cap ∧ xs.length = n * sz ∧ n ≤ cap ∧ cap ≤ maxLen ∧ (0 < n → ∃ a : Addr, ad = some a ∧ a.block < w.heap.size ∧ ∀ j u, xs[j]? = some u → w.cell? (a.add j) = some u)
section
variable {P : Program} {w w' : World} {sz n : Nat} {v : Value} {xs : List Value}
theorem Sl.later (h : Sl w sz v n xs) (hx : Ext w w') : Sl w' sz v n xs := by
  obtain ⟨ad, cap, h1, h2, h3, h4, h5⟩ := h
  refine ⟨ad, cap, h1, h2, h3, h4, fun hn => ?_⟩
  obtain ⟨a, h6, h7, h8⟩ := h5 hn
  exact ⟨a, h6, Nat.lt_of_lt_of_le h7 hx.size, fun j u hu => hx.cell (h8 j u hu)⟩
theorem Sl.nil (w : World) (sz : Nat) : Sl w sz (.slice none 0 0) 0 [] := ⟨none, 0, rfl, by simp, Nat.le_refl _, by simp [maxLen], fun h => by omega⟩
theorem Sl.of_own {e : TypeId} (h : w.ownsRow 0 e sz v n xs) : Sl w sz v n xs := by
  rcases h.2 with ⟨rfl, rfl⟩ | ⟨g, cap, cur, rfl, _, hg, hnc, hcm, _, _⟩
  · exact ⟨none, 0, rfl, h.1, Nat.le_refl _, by simp [maxLen], fun h => by omega⟩
  · exact ⟨_, cap, rfl, h.1, hnc, hcm, fun _ => ⟨⟨g, 0, none⟩, rfl, (Array.getElem?_eq_some_iff.1 hg).1, h.cells (g := g) rfl⟩⟩
theorem addr_add (p : Addr) (i j : Nat) : (p.add i).add j = p.add (i + j) := by
  unfold Addr.add
  by_cases hi : i = 0 <;> by_cases hj : j = 0 <;> simp [hi, hj, Nat.add_assoc]
theorem addr_block (p : Addr) (i : Nat) : (p.add i).block = p.block := by unfold Addr.add; split <;> rfl
/-- The slice type t has elements of sz cells. -/
def sliceOf (P : Program) (t sz : Nat) : Bool :=
  match P.underlying t with
  | some (.slice e) => match P.info? e with | some i => Nat.beq i.size sz | none => false
  | _ => false
theorem sliceOf_spec {t sz : Nat} (h : sliceOf P t sz = true) : ∃ e i, P.underlying t = some (.slice e) ∧ P.info? e = some i ∧ i.size = sz := by
  unfold sliceOf at h
  split at h
  · rename_i e he
    cases hi : P.info? e with
    | none => rw [hi] at h; simp at h
    | some i => rw [hi] at h; exact ⟨e, i, he, hi, by simpa using h⟩
  · simp at h
theorem Sl.at {t : Nat} {i : Int} (h : Sl w sz v n xs) (ht : sliceOf P t sz = true) (h0 : 0 ≤ i) (hi : i < n) :
    ∃ p : Addr, (∀ w', (Instr.indexAt t v (.int .i64 i)).run P w' = .ok (.pointer (some p)) w') ∧ p.block < w.heap.size ∧ ∀ j u, xs[i.toNat * sz + j]? = some u → w.cell? (p.add j) = some u := by
  obtain ⟨ad, cap, rfl, h2, h3, h4, h5⟩ := h
  obtain ⟨a, rfl, h7, h8⟩ := h5 (by omega)
  obtain ⟨e, inf, hu, hinf, hs⟩ := sliceOf_spec ht
  refine ⟨a.add (i.toNat * sz), fun w' => ?_, by rw [addr_block]; exact h7, fun j u hu => ?_⟩
  · simp [Instr.indexAt, asIntOf, run_underlying hu, sizeOf, typeInfo, hinf, hs, h0, hi]
  · rw [addr_add]; exact h8 _ u hu
theorem onil {T : World → World → Prop} {D : World → Prop} : Obs P T D [] := trivial
theorem ocons {T : World → World → Prop} {D : World → Prop} {o : Ob} {l : List Ob} (h : Ob.ok P T D o) (k : Obs P T D l) : Obs P T D (o :: l) := ⟨h, k⟩
theorem ob_hint {T : World → World → Prop} {D : World → Prop} {cs : List Cd} {s : Sem Value} {v : Value} (h : ∀ w', s.run P w' = .ok v w') : Ob.ok P T D (.run cs s v) := fun _ w' _ => h w'
def aggSize (P : Program) (t : Nat) : Option Nat := (pureSem P (isAgg t)).bind fun b => bif b then pureSem P (sizeOf t) else none
def notAgg (P : Program) (t : Nat) : Bool := match pureSem P (isAgg t) with | some b => !b | none => false
theorem load1_run {t : Nat} {p : Addr} {u : Value} (ht : notAgg P t = true) (h : w.cell? p = some u) : (Instr.loadAt t (.pointer (some p))).run P w = .ok u w := by
  unfold notAgg at ht
  cases hp : pureSem P (isAgg t) with
  | none => rw [hp] at ht; simp at ht
  | some b =>
    rw [hp] at ht
    have hb : b = false := by simpa using ht
    subst hb
    have := pureSem_run _ _ hp w
    simp [Instr.loadAt, Instr.sureAddr, loadVar, this, run_load, h]
theorem loadN_run {t : Nat} {p : Addr} {cs : List Value} (ht : aggSize P t = some cs.length) (h : ∀ j u, cs[j]? = some u → w.cell? (p.add j) = some u) : (Instr.loadAt t (.pointer (some p))).run P w = .ok (.agg cs.toArray) w := by
  unfold aggSize at ht
  cases hp : pureSem P (isAgg t) with
  | none => rw [hp] at ht; simp at ht
  | some b =>
    rw [hp] at ht
    cases b with
    | false => simp at ht
    | true =>
      simp at ht
      have h1 := pureSem_run _ _ hp w
      have h2 := pureSem_run _ _ ht w
      simp [Instr.loadAt, Instr.sureAddr, loadVar, h1, h2, run_loadCells_list (P := P) w p cs h]
theorem ob1 {T : World → World → Prop} {D : World → Prop} {cs : List Cd} {t : Nat} {p : Addr} {u : Value} (ht : notAgg P t = true) (h : ∀ w', D w' → w'.cell? p = some u) : Ob.ok P T D (.run cs (Instr.loadAt t (.pointer (some p))) u) :=
  fun _ w' e => load1_run ht (h w' e)
theorem obN {T : World → World → Prop} {D : World → Prop} {cs : List Cd} {t : Nat} {p : Addr} {us : List Value} (ht : aggSize P t = some us.length) (h : ∀ w', D w' → ∀ j u, us[j]? = some u → w'.cell? (p.add j) = some u) : Ob.ok P T D (.run cs (Instr.loadAt t (.pointer (some p))) (.agg us.toArray)) :=
  fun _ w' e => loadN_run ht (h w' e)
theorem obCall {cs : List Cd} {D : World → Prop} {f : FuncId} {args : Array Value} {u : Value} (h : ∀ w', D w' → Calls P f args w' (fun e w'' => e = .returned u ∧ Ext w' w'')) : Ob.ok P Ext D (.call cs f args u) := fun _ => h
theorem St.at_ {w0 : World} {H : List Res} (h : St w0 H w) (e : w' = w) : St w0 H w' := e ▸ h
/-- A callee that leaves the world alone. -/
theorem obPure {T : World → World → Prop} {D : World → Prop} (hT : ∀ w, T w w) {cs : List Cd} {f : FuncId} {args : Array Value} {u : Value} (h : ∀ w', Calls P f args w' (fun e w'' => e = .returned u ∧ w' = w'')) : Ob.ok P T D (.call cs f args u) :=
  fun _ w' _ => Calls.mono (h w') (fun _ _ ⟨h1, h2⟩ => ⟨h1, h2 ▸ hT _⟩)
theorem obPureE {cs : List Cd} {D : World → Prop} {f : FuncId} {args : Array Value} {u : Value} (h : ∀ w', Calls P f args w' (fun e w'' => e = .returned u ∧ w' = w'')) : Ob.ok P (fun a b => b = a) D (.call cs f args u) :=
  fun _ w' _ => Calls.mono (h w') (fun _ _ ⟨h1, h2⟩ => ⟨h1, h2.symm⟩)
theorem obPureX {cs : List Cd} {D : World → Prop} {f : FuncId} {args : Array Value} {u : Value} (h : ∀ w', Calls P f args w' (fun e w'' => e = .returned u ∧ w' = w'')) : Ob.ok P Ext D (.call cs f args u) :=
  fun _ w' _ => Calls.mono (h w') (fun _ _ ⟨h1, h2⟩ => ⟨h1, h2 ▸ Ext.refl _⟩)
theorem Blk.cells {b : Nat} {t : TypeId} {cs : Array Value} {off : Nat} {us : List Value} (h : Blk w b t cs) (hs : (cs.toList.drop off).take us.length = us) : ∀ j u, us[j]? = some u → w.cell? ((⟨b, off, none⟩ : Addr).add j) = some u := by
  intro j u hu
  have e : (⟨b, off, none⟩ : Addr).add j = ⟨b, off + j, none⟩ := by unfold Addr.add; split <;> simp_all
  rw [e, cell_of_row w b (off + j) cs t (0, 0) h]
  rw [← hs, List.getElem?_take] at hu
  split at hu
  · rw [List.getElem?_drop] at hu; simpa using hu
  · cases hu
end

/-! ### Operations that make or write memory -/
def effSem (ρ : Operand → Value) (op : Op) (ty : TypeId) : Option (Sem Value) :=
  match op with
  | .box t x => some (Instr.box t (ρ x))
  | .alloc t => some (Instr.alloc t true (.tuple #[]))
  | .buildSlice t len parts => some (Instr.buildSlice t len (parts.map fun (i, x) => (i, ρ x)))
  | .makeSlice t l c => some (Instr.makeSlice t (ρ l) (ρ c))
  | .call { callee := .builtin .append, args, argTypes } => some (Builtin.append_ argTypes ty (args.map ρ))
  | _ => none
theorem effSem_run {P : Program} {ρ : Operand → Value} {o : Oper} {s : Sem Value} {v : Value} {w w' : World} (h : effSem ρ o.op o.type = some s) (hr : s.run P w = .ok v w') :
    plainOp o.op = true ∧ (execOp ρ o).run P w = .ok (.value v) w' := by
  unfold effSem at h
  unfold execOp
  split at h <;> rename_i hop <;> simp only [Option.some.injEq, reduceCtorEq] at h <;> (try subst h) <;> rw [hop] <;> refine ⟨rfl, ?_⟩ <;> simp [hr, resolve, invoke, builtin]
/-- Whether a guard is met, if that is known. -/
def guardIs (ops : Array Oper) (M : List (Nat × Value)) (g : Nat × Bool) : Option Bool :=
  match dstAt ops g.1 with
  | some d => match lookM M d with
    | some (.bool b) => some (b == g.2)
    | _ => none
  | none => none
/-- The operation number k, unguarded, all its operands known. -/
def plainAt (ops : Array Oper) (k : Nat) (M : List (Nat × Value)) : Option Oper :=
  match ops[k]? with
  | some o => match o.guard with
    | none => bif o.op.operands.toList.all (okOperand (ofM M) []) && plainOp o.op then some o else none
    | some g => match guardIs ops M g with
      | some true => bif o.op.operands.toList.all (okOperand (ofM M) []) && plainOp o.op then some o else none
      | _ => none
  | none => none
structure NextM (ops : Array Oper) (k : Nat) (M : List (Nat × Value)) (v : Value) (M' : List (Nat × Value)) : Prop where
  eq : M'.map (fun p => lookM (match dstAt ops k with | some d => (d, v) :: M | none => M) p.1) = M'.map (fun p => some p.2)
section
variable {P : Program} {r : Option Nat} {ops : Array Oper} {Q : Exit → Act → World → Prop} {N : Nat} {ds : List Deferred} {M : List (Nat × Value)} {a : Act} {w w0 : World} {H : List Res}
theorem guardIs_spec {g : Nat × Bool} {b : Bool} (h : guardIs ops M g = some b) (hF : Fr N ds M a) : (yielded ops a.tmps g.1 == some g.2) = b := by
  unfold guardIs at h
  split at h
  · rename_i d hd
    split at h
    · rename_i c hl
      simp only [Option.some.injEq] at h
      have hg := hF.get hl
      have hgd : a.tmps[d]? = some (.bool c) := by
        rw [Array.getD_eq_getD_getElem?] at hg
        cases ht : a.tmps[d]? with
        | none => rw [ht] at hg; simp [undef] at hg
        | some v => rw [ht] at hg; simp at hg; rw [hg]
      have : yielded ops a.tmps g.1 = some c := by
        unfold yielded
        rw [show (ops[g.1]?).bind (·.dst) = some d from hd]
        simp [hgd]
      rw [this, ← h]
      simp
    · simp at h
  · simp at h
theorem plainAt_cases {k : Nat} {o : Oper} (h : plainAt ops k M = some o) : ops[k]? = some o ∧ (o.op.operands.toList.all (okOperand (ofM M) []) && plainOp o.op) = true ∧ (o.guard = none ∨ ∃ g, o.guard = some g ∧ guardIs ops M g = some true) := by
  unfold plainAt at h
  cases ho : ops[k]? with
  | none => rw [ho] at h; simp at h
  | some o' =>
    rw [ho] at h
    simp only at h
    cases hg : o'.guard with
    | some g =>
      rw [hg] at h
      simp only at h
      split at h
      · rename_i hgi
        cases hc : (o'.op.operands.toList.all (okOperand (ofM M) []) && plainOp o'.op) with
        | false => rw [hc] at h; simp at h
        | true => rw [hc] at h; simp at h; subst h; exact ⟨rfl, hc, .inr ⟨g, hg, hgi⟩⟩
      · simp at h
    | none =>
      rw [hg] at h
      simp only at h
      cases hc : (o'.op.operands.toList.all (okOperand (ofM M) []) && plainOp o'.op) with
      | false => rw [hc] at h; simp at h
      | true => rw [hc] at h; simp at h; subst h; exact ⟨rfl, hc, .inl hg⟩
theorem plainAt_spec {k : Nat} {o : Oper} (h : plainAt ops k M = some o) (hF : Fr N ds M a) : ops[k]? = some o ∧ Region.wanted o (yielded ops a.tmps) = true ∧ o.semAt r a.eval = execOp (rhoE (ofM M)) o := by
  obtain ⟨h1, hc, hg⟩ := plainAt_cases h
  rw [Bool.and_eq_true, List.all_eq_true] at hc
  refine ⟨h1, ?_, ?_⟩
  · rcases hg with hg | ⟨g, hg, hgi⟩
    · simp [Region.wanted, hg]
    · have := guardIs_spec hgi hF
      simpa [Region.wanted, hg] using this
  · rw [semAt_plain hc.2]
    refine execOp_congr o (fun cs b hh => by have := hc.2; rw [hh] at this; simp [plainOp] at this) ?_
    intro x hx
    refine eval_operand (cur := []) (coh_ofM M) (fun c hc => by simp at hc) rfl (hc.1 x (by simpa using hx)) ?_
    intro t _ e he
    obtain ⟨h1, h2⟩ := lookE_ofM he
    have := hF.slot _ h2
    simp only at this
    rw [this]; simp [En.val, h1, condsOk]
theorem nextM_spec {k : Nat} {o : Oper} {v : Value} {M' : List (Nat × Value)} (ho : ops[k]? = some o) (hdst : dstOk ops N = true) (hF : Fr N ds M a) (h : NextM ops k M v M') : Fr N ds M' (a.put o.dst v) := by
  refine ⟨by rw [put_size]; exact hF.size, by rw [put_defers]; exact hF.defers, fun p hp => ?_⟩
  have hl := List.map_inj_left.1 h.eq p hp
  have hd : dstAt ops k = o.dst := by simp [dstAt, ho]
  rw [hd] at hl
  cases hod : o.dst with
  | none => rw [hod] at hl; exact hF.get hl
  | some d =>
    rw [hod] at hl
    simp only [lookM] at hl
    cases hb : Nat.beq d p.1 with
    | true =>
      rw [hb] at hl
      simp at hl
      rw [Nat.beq_eq] at hb
      rw [← hb, ← hl]
      exact put_same (by rw [hF.size]; exact dstOk_spec hdst ho hod)
    | false =>
      rw [hb] at hl
      simp at hl
      have hne : (some d : Option Tmp) ≠ some p.1 := fun e => by cases e; simp at hb
      rw [put_other hne]
      exact hF.get hl
theorem op_raw {k k' : Nat} {o : Oper} {v : Value} {w' : World} {M' : List (Nat × Value)} (hF : Fr N ds M a) (hdst : dstOk ops N = true) (ho : plainAt ops k M = some o) (hr : (execOp (rhoE (ofM M)) o).run P w = .ok (.value v) w')
    (hM : NextM ops k M v M') (hk : k + 1 = k') (next : ∀ a', Fr N ds M' a' → WI P r ops Q k' a' w') : WI P r ops Q k a w := by
  obtain ⟨h1, h2, h3⟩ := plainAt_spec (r := r) ho hF
  refine WI.cons (R := fun u x => u = v ∧ x = w') h1 ?_ ?_
  · unfold OpG OpR
    rw [if_pos h2, h3, hr]
    exact ⟨rfl, rfl⟩
  · rintro u x ⟨rfl, rfl⟩
    rw [hk]
    exact next _ (nextM_spec h1 hdst hF hM)
theorem op_skip {k k' : Nat} {o : Oper} {w' : World} {M' : List (Nat × Value)} (hF : Fr N ds M a) (hdst : dstOk ops N = true) (ho : plainAt ops k M = some o) (hr : (execOp (rhoE (ofM M)) o).run P w = .ok .skip w')
    (hM : NextM ops k M undef M') (hk : k + 1 = k') (next : ∀ a', Fr N ds M' a' → WI P r ops Q k' a' w') : WI P r ops Q k a w := by
  obtain ⟨h1, h2, h3⟩ := plainAt_spec (r := r) ho hF
  refine WI.cons (R := fun u x => u = undef ∧ x = w') h1 ?_ ?_
  · unfold OpG OpR
    rw [if_pos h2, h3, hr]
    exact ⟨rfl, rfl⟩
  · rintro u x ⟨rfl, rfl⟩
    rw [hk]
    exact next _ (nextM_spec h1 hdst hF hM)
/-- The operation's meaning, an effect. -/
structure EffAt (ops : Array Oper) (k : Nat) (M : List (Nat × Value)) (s : Sem Value) : Prop where
  eq : ((plainAt ops k M).bind fun o => effSem (rhoE (ofM M)) o.op o.type) = some s
theorem eff_ {k k' : Nat} {s : Sem Value} {v : Value} {w' : World} {M' : List (Nat × Value)} (hF : Fr N ds M a) (hdst : dstOk ops N = true) (hs : EffAt ops k M s) (hr : s.run P w = .ok v w')
    (hM : NextM ops k M v M') (hk : k + 1 = k') (next : ∀ a', Fr N ds M' a' → WI P r ops Q k' a' w') : WI P r ops Q k a w := by
  have hs := hs.eq
  cases ho : plainAt ops k M with
  | none => rw [ho] at hs; simp at hs
  | some o =>
    rw [ho] at hs
    exact op_raw hF hdst ho (effSem_run hs hr).2 hM hk next
theorem ext_alloc (w : World) (o : Obj) : Ext w { w with heap := w.heap.push o } := (Below.refl _ w).alloc (Nat.le_refl _) o
theorem blk_new (w : World) (t : TypeId) (cs : Array Value) : (blk w.heap.size t cs).holds { w with heap := w.heap.push (.cells cs t) } := by
  show ({ w with heap := w.heap.push (.cells cs t) } : World).heap[w.heap.size]? = _
  simp
/-- A variable with its value. -/
theorem box_ {k : Nat} (k' : Nat) (M' : Nat → List (Nat × Value)) {t : TypeId} (v : Value) (cs : Array Value) (hF : Fr N ds M a) (hS : St w0 H w) (hdst : dstOk ops N = true) (hs : EffAt ops k M (Instr.box t v)) (hcs : v.cells = cs)
    (hM : ∀ b, NextM ops k M (.pointer (some ⟨b, 0, none⟩)) (M' b)) (hk : k + 1 = k')
    (next : ∀ b w' a', w.heap.size ≤ b → Ext w w' → Fr N ds (M' b) a' → St w0 (blk b t cs :: H) w' → WI P r ops Q k' a' w') : WI P r ops Q k a w := by
  refine eff_ hF hdst hs (v := .pointer (some ⟨w.heap.size, 0, none⟩)) (w' := { w with heap := w.heap.push (.cells cs t) }) ?_ (hM _) hk ?_
  · subst hcs
    simp [Instr.box, newVar, newRow]
  · intro a' hF'
    exact next _ _ a' (Nat.le_refl _) (ext_alloc w _) hF' (hS.push (ext_alloc w _) (blk_new w t cs) (fun b hb => by rw [show b = w.heap.size from hb]; exact Nat.le_refl _))
/-- A variable with the zero value of its type. -/
theorem alloc_ {k : Nat} (k' : Nat) (M' : Nat → List (Nat × Value)) {t : TypeId} (cs : Array Value) (hF : Fr N ds M a) (hS : St w0 H w) (hdst : dstOk ops N = true) (hs : EffAt ops k M (Instr.alloc t true (.tuple #[])))
    (hz : ((P.info? t).bind (·.zero)).map Value.cells = some cs) (hM : ∀ b, NextM ops k M (.pointer (some ⟨b, 0, none⟩)) (M' b)) (hk : k + 1 = k')
    (next : ∀ b w' a', w.heap.size ≤ b → Ext w w' → Fr N ds (M' b) a' → St w0 (blk b t cs :: H) w' → WI P r ops Q k' a' w') : WI P r ops Q k a w := by
  refine eff_ hF hdst hs (v := .pointer (some ⟨w.heap.size, 0, none⟩)) (w' := { w with heap := w.heap.push (.cells cs t) }) ?_ (hM _) hk ?_
  · cases hi : P.info? t with
    | none => rw [hi] at hz; simp at hz
    | some i =>
      cases hzz : i.zero with
      | none => rw [hi] at hz; simp [hzz] at hz
      | some z =>
        rw [hi] at hz
        simp [hzz] at hz
        subst hz
        simp [Instr.alloc, zeroValue, typeInfo, hi, hzz, newVar, newRow]
  · intro a' hF'
    exact next _ _ a' (Nat.le_refl _) (ext_alloc w _) hF' (hS.push (ext_alloc w _) (blk_new w t cs) (fun b hb => by rw [show b = w.heap.size from hb]; exact Nat.le_refl _))
structure StoreAt (ops : Array Oper) (k : Nat) (M : List (Nat × Value)) (t : TypeId) (p v : Value) : Prop where
  eq : ((plainAt ops k M).bind fun o => match o.op with | .store t x y => some (t, rhoE (ofM M) x, rhoE (ofM M) y) | _ => none) = some (t, p, v)
theorem store_raw {k k' : Nat} {t : TypeId} {p : Addr} {v : Value} {w' : World} {M' : List (Nat × Value)} (hF : Fr N ds M a) (hdst : dstOk ops N = true) (hs : StoreAt ops k M t (.pointer (some p)) v) (hr : (storeVar t p v).run P w = .ok () w')
    (hM : NextM ops k M undef M') (hk : k + 1 = k') (next : ∀ a', Fr N ds M' a' → WI P r ops Q k' a' w') : WI P r ops Q k a w := by
  have hs := hs.eq
  cases ho : plainAt ops k M with
  | none => rw [ho] at hs; simp at hs
  | some o =>
    rw [ho] at hs
    simp only [Option.bind_some] at hs
    split at hs
    · rename_i t' x y hop
      simp at hs
      obtain ⟨rfl, h1, h2⟩ := hs
      refine op_skip hF hdst ho ?_ hM hk next
      unfold execOp
      rw [hop]
      simp [Instr.storeAt, Instr.sureAddr, h1, h2, hr]
    · simp at hs
def splice (cs : Array Value) (off : Nat) (us : List Value) : Array Value := (cs.toList.take off ++ us ++ cs.toList.drop (off + us.length)).toArray
/-- Into a variable of the call's own. -/
theorem store_ {k : Nat} (k' : Nat) (M' : List (Nat × Value)) (i : Nat) {t tt : TypeId} {b : Nat} {cs : Array Value} (off : Nat) (v : Value) (cs' : Array Value) (hF : Fr N ds M a) (hS : St w0 H w) (hi : H[i]? = some (blk b tt cs)) (hdst : dstOk ops N = true)
    (hs : StoreAt ops k M t (.pointer (some ⟨b, off, none⟩)) v) (hsz : pureSem P (sizeOf t) = some v.cells.size) (hone : v.cells.toList.all Value.oneCell' = true) (hfit : Nat.ble (off + v.cells.size) cs.size = true) (hcs : splice cs off v.cells.toList = cs')
    (hM : NextM ops k M undef M') (hk : k + 1 = k') (next : ∀ w' a', w.grownBy w' (some b) → w'.heap.size = w.heap.size → Fr N ds M' a' → St w0 (H.set i (blk b tt cs')) w' → WI P r ops Q k' a' w') : WI P r ops Q k a w := by
  have hb := hS.blk hi
  have hsz' := pureSem_run _ _ hsz w
  have hst := run_storeCells_at P b off tt v.cells.toList 0 cs w hb (by simpa using Nat.le_of_ble_eq_true hfit) (fun u hu => List.all_eq_true.1 hone u hu)
  simp only [Nat.add_zero] at hst
  have hg : w.grownBy (w.setRow b cs') (some b) := ⟨rfl, rfl, rfl, by simp, fun j _ hj => setRow_other w b j _ (fun e => hj (by rw [e]))⟩
  refine store_raw hF hdst hs (w' := w.setRow b cs') ?_ hM hk ?_
  · subst hcs
    unfold splice
    simp [storeVar, hsz', hst]
  · intro a' hF'
    refine next _ a' hg (by simp [World.setRow]) hF' (hS.upd hi rfl rfl rfl (by simp [World.setRow]) (fun j _ hj => setRow_other w b j _ hj) ?_ (fun j hj => .inl hj))
    show (w.setRow b cs').heap[b]? = _
    exact setRow_heap w b cs _ tt _ hb
/-- A call by its contract. -/
structure CallAt (P : Program) (ops : Array Oper) (k : Nat) (M : List (Nat × Value)) (f : FuncId) (args : Array Value) : Prop where
  eq : ((plainAt ops k M).bind fun o => match pureSem P (execOp (rhoE (ofM M)) o) with | some (.enter f args) => some (f, args) | _ => none) = some (f, args)
theorem call_ {k : Nat} (k' : Nat) (M' : Value → List (Nat × Value)) {f : FuncId} {args : Array Value} {R : Value → World → Prop} (hF : Fr N ds M a) (hdst : dstOk ops N = true) (hs : CallAt P ops k M f args)
    (hc : Calls P f args w (fun e w' => ∃ v, e = .returned v ∧ R v w')) (hM : ∀ v, NextM ops k M v (M' v)) (hk : k + 1 = k') (next : ∀ v w' a', R v w' → Fr N ds (M' v) a' → WI P r ops Q k' a' w') : WI P r ops Q k a w := by
  have hs := hs.eq
  cases ho : plainAt ops k M with
  | none => rw [ho] at hs; simp at hs
  | some o =>
    rw [ho] at hs
    simp only [Option.bind_some] at hs
    split at hs
    · rename_i f' args' hp
      simp at hs
      obtain ⟨rfl, rfl⟩ := hs
      obtain ⟨h1, h2, h3⟩ := plainAt_spec (r := r) ho hF
      refine WI.cons (R := R) h1 ?_ ?_
      · unfold OpG OpR
        rw [if_pos h2, h3, pureSem_run _ _ hp w]
        exact hc
      · intro v w' hv
        rw [hk]
        exact next v w' _ hv (nextM_spec h1 hdst hF (hM v))
    · simp at hs
end
end Go.Eng
