/- The engine, part 11: ranging over functions. -/
import Derived.Test.YtejffembnkojjaaEng10
import Derived.RangeFuncRecord
import Derived.RangeFuncLeaves
namespace Go.Eng
open Go Go.RowKit

/-- An object that is no cells: a loop's record, a block of deferred calls. -/
def objR (b : Nat) (o : Obj) : Res where
  foot := fun k => k = b
  holds := fun w => w.heap[b]? = some o
  loc := fun w w' h hb => (h b rfl).trans hb
  lt := fun w k hb hk => by subst hk; exact (Array.getElem?_eq_some_iff.1 hb).1
section
variable {P : Program} {w w0 : World} {H : List Res}
theorem St.putObj {i b : Nat} {o : Obj} (o' : Obj) (h : St w0 H w) (hi : H[i]? = some (objR b o)) : St w0 (H.set i (objR b o')) (w.putObj b o') := by
  have hb : w.heap[b]? = some o := h.res hi
  refine h.upd hi rfl rfl rfl (by simp [World.putObj]) (fun k _ hk => World.putObj_heap_other (fun e => hk e)) ?_ (fun k hk => .inl hk)
  exact World.putObj_heap_same (Array.getElem?_eq_some_iff.1 hb).1
theorem St.allocObj (o : Obj) (h : St w0 H w) : St w0 (objR w.heap.size o :: H) (w.alloc o) :=
  h.push ((Below.refl _ w).alloc (Nat.le_refl _) o) (World.alloc_heap_new w o) (fun b hb => by rw [show b = w.heap.size from hb]; exact Nat.le_refl _)
/-- What a call of yield leads to. -/
def Yields (P : Program) (l : Nat) (args : Array Value) (w : World) (R : Bool → World → Prop) : Prop :=
  ∃ f tmps assign body, (Instr.yield l args).run P w = .ok (.round l f tmps assign body) w ∧ RoundIn (F0 none) 0 P l f tmps assign body w (fun e w' => ∃ b, e = .returned (.bool b) ∧ R b w')
end
structure YieldAt (P : Program) (ops : Array Oper) (k : Nat) (M : List (Nat × Value)) (l : Nat) (args : Array Value) : Prop where
  eq : ((plainAt ops k M).bind fun o => match o.op with | .call c => (match pureSem P (resolve (rhoE (ofM M)) c o.type) with | some d => (match d.target with | .fn (.yield l) _ => some (l, d.args) | _ => none) | _ => none) | _ => none) = some (l, args)
section
variable {P : Program} {ops : Array Oper} {Q : Exit → Act → World → Prop} {N : Nat} {ds : List Deferred} {M : List (Nat × Value)} {a : Act} {w w0 : World} {H : List Res}
theorem yield_ {k : Nat} (k' : Nat) (M' : Bool → List (Nat × Value)) {l : Nat} {args : Array Value} {R : Bool → World → Prop} (hF : Fr N ds M a) (hdst : dstOk ops N = true) (hs : YieldAt P ops k M l args) (hy : Yields P l args w R)
    (hM : ∀ b, NextM ops k M (.bool b) (M' b)) (hk : k + 1 = k') (next : ∀ b w' a', R b w' → Fr N ds (M' b) a' → WI P none ops Q k' a' w') : WI P none ops Q k a w := by
  have hs := hs.eq
  cases hp : plainAt ops k M with
  | none => rw [hp] at hs; simp at hs
  | some o =>
    rw [hp] at hs
    simp only [Option.bind_some] at hs
    obtain ⟨h1, h2, h3⟩ := plainAt_spec (r := none) hp hF
    obtain ⟨f, tmps, assign, body, hrun, hround⟩ := hy
    have hrunop : (execOp (rhoE (ofM M)) o).run P w = .ok (.round l f tmps assign body) w := by
      split at hs
      · rename_i c hop
        split at hs
        · rename_i d hd
          split at hs
          · rename_i l' cap htar
            simp only [Option.some.injEq, Prod.mk.injEq] at hs
            obtain ⟨rfl, rfl⟩ := hs
            unfold execOp
            rw [hop]
            simp only [Sem.run_bind, pureSem_run _ _ hd w, Result.andThen]
            unfold invoke
            rw [htar]
            exact hrun
          · simp at hs
        · simp at hs
      · simp at hs
    have hi : k < ops.size := (Array.getElem?_eq_some_iff.1 h1).1
    have e : List.range' k (ops.size - k) = k :: List.range' (k + 1) (ops.size - (k + 1)) := by
      rw [show ops.size - k = (ops.size - (k + 1)) + 1 by omega, List.range'_succ]
    unfold WI
    rw [e, wpOpsIn_cons]
    unfold Go.wpOpIn
    rw [h1]
    simp only
    rw [if_pos h2]
    refine ⟨fun _ _ => trivial, ?_⟩
    change o.uponIn (F0 none) 0 P a _ Q ((o.semAt none a.eval).run P w)
    rw [h3, hrunop, Oper.uponIn_round]
    refine ⟨fun h => by simp [F0, Fence.wide] at h, RoundIn.mono hround ?_⟩
    rintro e w' ⟨b, rfl, hR⟩
    have := next b w' _ hR (nextM_spec h1 hdst hF (hM b))
    rw [← hk] at this
    exact this
/-- The record of a loop. -/
def recL (a : Act) (ps : Array Tmp) (assign body : Code) (D : Nat) (fn : FuncId) (s : LoopState) (pe : Option Code) : Obj := .loop { state := s, pending := pe, fn, tmps := a.tmps, params := ps, assign, body, defers := D }
theorem range_ {g : Nat} {ps : Array Tmp} {assign body : Code} {gf : FuncId} {lb : Array Value} (args : Nat → Array Value) (H1 : List Res) (H2 : Code → List Res) (hF : Fr N ds M a) (hg : lookM M g = some (.func (.func gf) #[] lb)) (hS : St w0 H w)
    (hargs : ∀ l, #[.func (.yield l) #[] #[]] ++ lb = args l) (hent : ∀ args, pureSem P (callFunc gf args) = some (.enter gf args))
    (hcall : ∀ fn l D rec w1, rec = recL a ps assign body D fn → St w0 (objR l (rec .ready none) :: objR D (.deferred (some [])) :: H) w1 →
      Calls P gf (args l) w1 (fun e w3 => ∃ v, e = .returned v ∧
        (St w0 (objR l (rec .ready none) :: objR D (.deferred (some [])) :: H1) w3 ∨ ∃ c, St w0 (objR l (rec .done (some c)) :: objR D (.deferred (some [])) :: H2 c) w3)))
    (hdone : ∀ D a' w', Fr N (⟨.collected D, #[]⟩ :: ds) M a' → St w0 (objR D (.deferred (some [])) :: H1) w' → Q .normal a' w')
    (hstop : ∀ D c a' w', Fr N (⟨.collected D, #[]⟩ :: ds) M a' → St w0 (objR D (.deferred (some [])) :: H2 c) w' → WP P none c Q a' w') : WP P none (.rangeFunc (.tmp g) ps assign body) Q a w := by
  refine wpIn_rangeFunc ?_
  intro fn hfn
  rw [show (F0 none).round = none from rfl]
  obtain ⟨W1, hW1⟩ : ∃ W1, (w.alloc (.deferred (some []))).alloc (recL a ps assign body w.heap.size fn .ready none) = W1 := ⟨_, rfl⟩
  have hE : (Instr.enterLoop fn a.tmps ps assign body none).run P w = .ok (w.heap.size + 1, [{ target := .collected w.heap.size, args := #[] }]) W1 := by rw [← hW1]; exact run_enterLoop_outer _ _ _ _ _
  refine ⟨w.heap.size + 1, [{ target := .collected w.heap.size, args := #[] }], W1, { target := .fn (.func gf) lb, args := #[.func (.yield (w.heap.size + 1)) #[] #[]] }, W1, gf,
    #[.func (.yield (w.heap.size + 1)) #[] #[]] ++ lb, W1, hE, ?_, fun _ _ => trivial, ?_, fun h => by simp [F0, Fence.wide] at h, ?_⟩
  · have hge : a.eval (.tmp g) = .func (.func gf) #[] lb := hF.get hg
    simp only [resolve, hge]
    simp [go_sem]
  · simp only [invoke]
    exact pureSem_run _ _ (hent _) _
  · rw [hargs]
    refine callsIn_F0.2 (Calls.mono (hcall fn (w.heap.size + 1) w.heap.size _ W1 rfl ?_) ?_)
    · rw [← hW1]
      have h1 := (hS.allocObj (.deferred (some []))).allocObj (recL a ps assign body w.heap.size fn .ready none)
      simpa using h1
    · rintro e w3 ⟨v, rfl, h⟩
      have fr : Fr N (⟨.collected w.heap.size, #[]⟩ :: ds) M { a with defers := [{ target := .collected w.heap.size, args := #[] }] ++ a.defers } := ⟨hF.size, by simp [hF.defers], hF.slot⟩
      rcases h with h | ⟨c, h⟩
      · have hl := h.res (i := 0) rfl
        refine ⟨none, _, run_endLoop (P := P) hl (by simp), ?_⟩
        exact hdone _ _ _ fr (h.putObj (i := 0) _ rfl).drop1
      · have hl := h.res (i := 0) rfl
        refine ⟨some c, _, run_endLoop (P := P) hl (by simp), ?_⟩
        exact hstop _ c _ _ fr (h.putObj (i := 0) _ rfl).drop1
theorem setAll_size : ∀ (zs : List (Nat × Value)) (t : Array Value), (zs.foldl (fun t p => t.setIfInBounds p.1 p.2) t).size = t.size := by
  intro zs
  induction zs with
  | nil => intro t; rfl
  | cons z zs ih => intro t; rw [List.foldl_cons, ih]; simp
theorem lookM_append : ∀ {M1 M2 : List (Nat × Value)} {t : Nat}, lookM (M1 ++ M2) t = (lookM M1 t).or (lookM M2 t) := by
  intro M1
  induction M1 with
  | nil => intro M2 t; simp [lookM]
  | cons p M1 ih =>
    intro M2 t
    obtain ⟨k, v⟩ := p
    simp only [List.cons_append, lookM, ih]
    cases Nat.beq k t <;> simp
theorem setAll_get : ∀ (zs : List (Nat × Value)) (t : Array Value) (i : Nat) (v : Value), (∀ p ∈ zs, p.1 < t.size) → (lookM zs.reverse i = some v → (zs.foldl (fun t p => t.setIfInBounds p.1 p.2) t).getD i undef = v) ∧ (lookM zs.reverse i = none → (zs.foldl (fun t p => t.setIfInBounds p.1 p.2) t).getD i undef = t.getD i undef) := by
  intro zs
  induction zs with
  | nil => intro t i v _; exact ⟨fun h => by simp [lookM] at h, fun _ => rfl⟩
  | cons z zs ih =>
    intro t i v hz
    obtain ⟨k, u⟩ := z
    have hk : k < t.size := hz (k, u) (List.mem_cons_self ..)
    have ih' := ih (t.setIfInBounds k u) i v (fun p hp => by rw [Array.size_setIfInBounds]; exact hz p (List.mem_cons_of_mem _ hp))
    have hget : (t.setIfInBounds k u).getD i undef = if k = i then u else t.getD i undef := by
      simp only [Array.getD_eq_getD_getElem?, Array.getElem?_setIfInBounds]
      split
      · rename_i e; subst e; simp
      · rfl
    rw [List.foldl_cons, List.reverse_cons, lookM_append]
    have hone : lookM [(k, u)] i = if k = i then some u else none := by
      simp only [lookM]
      by_cases e : k = i
      · subst e; simp
      · rw [if_neg e, show Nat.beq k i = false from by rw [← Bool.not_eq_true, Nat.beq_eq]; exact e]; rfl
    rw [hone]
    cases hl : lookM zs.reverse i with
    | some v' =>
      constructor
      · intro h; simp at h; subst h; exact ((ih (t.setIfInBounds k u) i v' (fun p hp => by rw [Array.size_setIfInBounds]; exact hz p (List.mem_cons_of_mem _ hp))).1 hl)
      · intro h; simp at h
    | none =>
      have := ih'.2 hl
      rw [this, hget]
      constructor
      · intro h
        simp only [Option.none_or] at h
        split at h
        · rename_i e; rw [if_pos e]; simpa using h
        · simp at h
      · intro h
        simp only [Option.none_or] at h
        split at h
        · simp at h
        · rename_i e; rw [if_neg e]
/-- What a round's body leaves. -/
def roundQ (w0 : World) (l : Nat) (rec : LoopState → Option Code → Obj) (R : Bool → World → Prop) : Exit → Act → World → Prop
  | .normal, _, w => ∃ Hy, St w0 (objR l (rec .busy none) :: Hy) w ∧ ∀ w', St w0 (objR l (rec .ready none) :: Hy) w' → R true w'
  | .ret, _, w => ∃ Hy, St w0 (objR l (rec .busy none) :: Hy) w ∧ ∀ w', St w0 (objR l (rec .done (some .ret)) :: Hy) w' → R false w'
  | .exit id, _, w => ∃ Hy, St w0 (objR l (rec .busy none) :: Hy) w ∧ ∀ w', St w0 (objR l (rec .done (some (.exit id))) :: Hy) w' → R false w'
  | _, _, _ => False
theorem round_ {l D : Nat} {fn : FuncId} {ps : Array Tmp} {assign body : Code} {args : Array Value} {R : Bool → World → Prop} {Hx : List Res} {b0 : Act} {rec : LoopState → Option Code → Obj} (hrec : rec = recL b0 ps assign body D fn) (zs : List (Nat × Value)) (M1 : List (Nat × Value)) (hF : Fr N ds M b0) (hz : (ps.zip args).toList = zs) (hsz : args.size = ps.size)
    (hlt : (zs.all fun p => Nat.blt p.1 N) = true) (hM1 : M1.map (fun p => lookM (zs.reverse ++ M) p.1) = M1.map (fun p => some p.2)) (hS : St w0 (objR l (rec .ready none) :: Hx) w)
    (h : ∀ a0, Fr N [] M1 a0 → WP P (some l) assign (Exit.then (fun a1 w1 => ∃ Hy, St w0 (objR l (rec .ready none) :: Hy) w1 ∧ ∀ w2, St w0 (objR l (rec .busy none) :: Hy) w2 → WP P (some l) body (roundQ w0 l rec R) a1 w2) (fun _ _ _ => False)) a0 w) :
    Yields P l args w R := by
  subst hrec
  have hl := hS.res (i := 0) rfl
  refine ⟨fn, _, assign, body, run_yield (P := P) hl hsz, roundIn_of_wpIn (F := F0 none) trivial ?_⟩
  have hfr : Fr N [] M1 { tmps := (ps.zip args).foldl (fun t (p, v) => t.setIfInBounds p v) b0.tmps, defers := [] } := by
    have e : (ps.zip args).foldl (fun t (p, v) => t.setIfInBounds p v) b0.tmps = zs.foldl (fun t p => t.setIfInBounds p.1 p.2) b0.tmps := by
      rw [← Array.foldl_toList, hz]
    rw [e]
    refine ⟨by rw [setAll_size]; exact hF.size, rfl, fun p hp => ?_⟩
    have hq := List.map_inj_left.1 hM1 p hp
    have hb : ∀ q ∈ zs, q.1 < b0.tmps.size := fun q hq => by rw [hF.size]; exact Nat.blt_eq.mp (List.all_eq_true.1 hlt q hq)
    have hs := setAll_get zs b0.tmps p.1 p.2 hb
    rw [lookM_append] at hq
    cases hr : lookM zs.reverse p.1 with
    | some v => rw [hr] at hq; simp at hq; subst hq; exact hs.1 hr
    | none => rw [hr] at hq; simp at hq; rw [show (({ tmps := zs.foldl (fun t p => t.setIfInBounds p.1 p.2) b0.tmps, defers := [] } : Act).tmps.getD p.1 undef) = _ from hs.2 hr]; exact hF.get hq
  refine wpIn_mono (h _ hfr) ?_
  intro e a1 w1 hq
  cases e with
  | normal =>
    obtain ⟨Hy, hS1, hb⟩ := hq
    refine ⟨_, run_beginRound (P := P) (hS1.res (i := 0) rfl) rfl, ?_⟩
    refine wpIn_mono (hb _ (hS1.putObj (i := 0) _ rfl)) ?_
    intro e a2 w2 hq2
    cases e with
    | normal =>
      obtain ⟨Hz, hS2, hR⟩ := hq2
      exact ⟨_, _, run_endRound (P := P) none (hS2.res (i := 0) rfl), true, rfl, hR _ (hS2.putObj (i := 0) _ rfl)⟩
    | ret =>
      obtain ⟨Hz, hS2, hR⟩ := hq2
      exact ⟨_, _, run_endRound (P := P) (some .ret) (hS2.res (i := 0) rfl), false, rfl, hR _ (hS2.putObj (i := 0) _ rfl)⟩
    | exit id =>
      obtain ⟨Hz, hS2, hR⟩ := hq2
      exact ⟨_, _, run_endRound (P := P) (some (.exit id)) (hS2.res (i := 0) rfl), false, rfl, hR _ (hS2.putObj (i := 0) _ rfl)⟩
    | goto t => exact hq2.elim
    | panic c => exact hq2.elim
    | outgrown => exact hq2.elim
  | ret => exact hq.elim
  | exit id => exact hq.elim
  | goto t => exact hq.elim
  | panic c => exact hq.elim
  | outgrown => exact hq.elim
/-- The marks of the loops that a function has gone through. -/
def marks (Ds : List Nat) : List Deferred := Ds.map fun D => ⟨.collected D, #[]⟩
def markR (Ds : List Nat) : Res where
  foot := fun k => k ∈ Ds
  holds := fun w => Ds.Nodup ∧ ∀ D ∈ Ds, w.heap[D]? = some (.deferred (some []))
  loc := fun _w _w' h hb => ⟨hb.1, fun D hD => (h D hD).trans (hb.2 D hD)⟩
  lt := fun _w k hb hk => (Array.getElem?_eq_some_iff.1 (hb.2 k hk)).1
theorem St.mark {D : Nat} {Ds : List Nat} (h : St w0 (objR D (.deferred (some [])) :: markR Ds :: H) w) : St w0 (markR (D :: Ds) :: H) w := by
  have hp := List.pairwise_cons.1 h.apart
  refine h.both.conv ⟨List.nodup_cons.2 ⟨fun hD => hp.1 (markR Ds) (by simp) D rfl hD, (h.res (i := 1) rfl).1⟩, fun E hE => ?_⟩ (fun b hb => ?_)
  · rcases List.mem_cons.1 hE with rfl | hE
    · exact h.res (i := 0) rfl
    · exact (h.res (i := 1) rfl).2 E hE
  · rcases List.mem_cons.1 hb with rfl | hb
    · exact .inl rfl
    · exact .inr hb
theorem St.noMarks (h : St w0 H w) : St w0 (markR [] :: H) w := h.push (Ext.refl w) ⟨List.nodup_nil, fun _ h => by simp at h⟩ (fun _ hb => by simp [markR] at hb)
theorem fn_enterM {f : FuncId} {fn : Func} {c : Code} {args : Array Value} {R : Ending → World → Prop} (hf : P.funcs[f]? = some fn) (hb : fn.body = some c) (N : Nat) (M : List (Nat × Value)) (hN : fn.ntmps = N)
    (hsz : Nat.ble args.size N = true) (hM : M.map (fun p => (args ++ Array.replicate (N - args.size) undef).getD p.1 undef) = M.map Prod.snd) (h : ∀ a, Fr N (marks []) M a → WP P none c (bodyPostM (F0 none) 0 P fn R) a w) : Calls P f args w R := by
  refine callsIn_F0 (r := none) (n := 0) |>.1 (callsIn_of_wp_marks hf hb trivial ?_ rfl)
  refine h _ ⟨?_, rfl, fun p hp => ?_⟩
  · have := Nat.le_of_ble_eq_true hsz
    simp [hN]; omega
  · rw [hN]; exact List.map_inj_left.1 hM p hp
theorem leavesM {fn : Func} {tmps : Array Value} {R : Ending → World → Prop} : ∀ (Ds : List Nat) (w : World) (H : List Res), St w0 (markR Ds :: H) w → (∀ w', St w0 H w' → ∃ v, (results fn tmps).run P w' = .ok v w' ∧ R (.returned v) w') →
    LeavesInM (F0 none) 0 P fn tmps R (marks Ds) .returning w := by
  intro Ds
  induction Ds with
  | nil => intro w H hS h; exact h w hS.drop1
  | cons D Ds ih =>
    intro w H hS h
    have hm := hS.res (i := 0) rfl
    have hD : w.heap[D]? = some (.deferred (some [])) := hm.2 D (List.mem_cons_self ..)
    refine ⟨by simp, .inl ⟨D, _, rfl, run_takeDeferred hD, ih _ H ?_ h⟩⟩
    have hnd := List.nodup_cons.1 hm.1
    refine hS.upd (i := 0) (R' := markR Ds) rfl rfl rfl rfl (by simp [World.putObj]) (fun k _ hk => World.putObj_heap_other (fun e => hk (by rw [e]; exact List.mem_cons_self ..))) ⟨hnd.2, fun E hE => ?_⟩ (fun k hk => .inl (List.mem_cons_of_mem _ hk))
    have hne : E ≠ D := fun e => hnd.1 (e ▸ hE)
    rw [World.putObj_heap_other hne]
    exact hm.2 E (List.mem_cons_of_mem _ hE)
theorem fn_retM {fn : Func} {R : Ending → World → Prop} {Ds : List Nat} (rs : List ResultVar) (vs : List Value) (hF : Fr N (marks Ds) M a) (hS : St w0 (markR Ds :: H) w) (hrs : fn.results = rs.toArray)
    (h : ∀ w', St w0 H w' → ResOk P w' M rs vs ∧ R (.returned (match vs with | [v] => v | _ => .tuple vs.toArray)) w') : bodyPostM (F0 none) 0 P fn R .ret a w := by
  show LeavesInM (F0 none) 0 P fn a.tmps R a.defers .returning w
  rw [hF.defers]
  refine leavesM Ds w H hS fun w' hS' => ?_
  obtain ⟨h1, h2⟩ := h w' hS'
  refine ⟨_, ?_, h2⟩
  have hm := resOk_run (a := a) rs vs h1 hF
  have e : results fn a.tmps = (do let vs ← fn.results.mapM (resVal a.tmps); pure (if h : vs.size = 1 then vs[0] else .tuple vs)) := by
    unfold results
    congr 1
  rw [e, hrs, List.mapM_toArray]
  simp [hm]
  rcases vs with _ | ⟨v, _ | ⟨u, vs⟩⟩ <;> simp
/-- An operation whose guard is known not to be met. -/
structure SkipAt (ops : Array Oper) (k : Nat) (M : List (Nat × Value)) : Prop where
  eq : ((ops[k]?).bind (·.guard)).bind (guardIs ops M) = some false
theorem skip_ {r : Option Nat} {k : Nat} (k' : Nat) (M' : List (Nat × Value)) (hF : Fr N ds M a) (hdst : dstOk ops N = true) (hs : SkipAt ops k M) (hM : NextM ops k M undef M') (hk : k + 1 = k')
    (next : ∀ a', Fr N ds M' a' → WI P r ops Q k' a' w) : WI P r ops Q k a w := by
  have hs := hs.eq
  cases ho : ops[k]? with
  | none => rw [ho] at hs; simp at hs
  | some o =>
    rw [ho] at hs
    simp only [Option.bind_some] at hs
    cases hg : o.guard with
    | none => rw [hg] at hs; simp at hs
    | some g =>
      rw [hg] at hs
      simp only [Option.bind_some] at hs
      have hw := guardIs_spec hs hF
      refine WI.cons (R := fun v w' => v = undef ∧ w' = w) ho ?_ ?_
      · unfold OpG
        have : Region.wanted o (yielded ops a.tmps) = false := by simp only [Region.wanted, hg]; exact hw
        rw [this]
        exact ⟨rfl, rfl⟩
      · rintro v w' ⟨rfl, rfl⟩
        rw [hk]
        exact next _ (nextM_spec ho hdst hF hM)
/-- A fact that goes with the resources. -/
def pureR (p : Prop) : Res where
  foot := fun _ => False
  holds := fun _ => p
  loc := fun _ _ _ h => h
  lt := fun _ _ _ h => h.elim
theorem St.pure {p : Prop} (h : St w0 H w) (hp : p) : St w0 (pureR p :: H) w := h.push (Ext.refl w) hp (fun _ hb => hb.elim)
theorem St.fact {p : Prop} {i : Nat} (h : St w0 H w) (hi : H[i]? = some (pureR p)) : p := h.res hi
/-- Some of the resources, in any order, ahead of others that stay. -/
theorem St.pickT {A T : List Res} (is : List Nat) (hn : is.Nodup) (h : St w0 (A ++ T) w) : St w0 ((is.filterMap fun i => A[i]?) ++ T) w := by
  have hm : ∀ R, R ∈ is.filterMap (fun i => A[i]?) → R ∈ A := fun R hR => by
    obtain ⟨i, _, hi⟩ := List.mem_filterMap.1 hR
    exact List.mem_of_getElem? hi
  have hm2 : ∀ R, R ∈ is.filterMap (fun i => A[i]?) ++ T → R ∈ A ++ T := fun R hR => by
    rcases List.mem_append.1 hR with hR | hR
    · exact List.mem_append_left _ (hm R hR)
    · exact List.mem_append_right _ hR
  have hp := List.pairwise_append.1 h.apart
  have hA : St w0 A w := h.sub (List.sublist_append_left ..)
  exact ⟨h.ext, fun R hR => h.holds R (hm2 R hR), fun R hR => h.low R (hm2 R hR), List.pairwise_append.2 ⟨(hA.pick is hn).apart, hp.2.1, fun R hR S hS => hp.2.2 R (hm R hR) S hS⟩⟩
end
end Go.Eng
