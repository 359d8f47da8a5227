import Derived.Test.YtejffembnkojjaaEngD8
import Derived.RecoverIn
/- The engine, part D9: panics, deferred calls, recover. -/
namespace Go.Eng
open Go Go.RowKit
set_option linter.unusedVariables false
set_option linter.unusedSimpArgs false
/-- What is returned. -/
def retV : List Value → Value | [v] => v | vs => .tuple vs.toArray
/-- An outcome: an error or a value, and what to do. -/
def exc {ε α β : Type} (y : Except ε α) (f : ε → β) (g : α → β) : β := match y with | .error e => f e | .ok x => g x
theorem excE {ε α β : Type} {y : Except ε α} {e : ε} {f : ε → β} {g : α → β} {z : β} (h : exc y f g = z) (hy : y = .error e) : f e = z := by subst hy; exact h
theorem excO {ε α β : Type} {y : Except ε α} {x : α} {f : ε → β} {g : α → β} {z : β} (h : exc y f g = z) (hy : y = .ok x) : g x = z := by subst hy; exact h
section
variable {P : Program} {r : Option Nat} {ops : Array Oper} {Q : Exit → Act → World → Prop} {K : Act → World → Prop} {N : Nat} {ds : List Deferred} {M M' : List (Nat × Value)} {a : Act} {w w0 w' : World} {H : List Res} {k : Nat}
theorem WI.consQ {i : Nat} {o : Oper} (ho : ops[i]? = some o) (hw : Region.wanted o (yielded ops a.tmps) = true)
    (h : o.wpIn (F0 r) 0 P a w (fun a w => WI P r ops Q (i + 1) a w) Q) : WI P r ops Q i a w := by
  have hi : i < ops.size := (Array.getElem?_eq_some_iff.1 ho).1
  have e : List.range' i (ops.size - i) = i :: List.range' (i + 1) (ops.size - (i + 1)) := by
    rw [show ops.size - i = (ops.size - (i + 1)) + 1 by omega, List.range'_succ]
  unfold WI
  rw [e, wpOpsIn_cons]
  unfold Go.wpOpIn
  rw [ho]
  simp only [hw, if_true]
  exact h
theorem callP (M' : Value → List (Nat × Value)) {f : FuncId} {args : Array Value} {R : Value → World → Prop} {Rp : List PanicEntry → World → Prop} (hF : Fr N ds M a) (hdst : dstOk ops N = true) (hs : CallAt P ops k M f args)
    (hc : Calls P f args w (fun e w' => (∃ v, e = .returned v ∧ R v w') ∨ ∃ ch, e = .panicked ch ∧ Rp ch w')) (hM : ∀ v, NextM ops k M v (M' v))
    (hp : ∀ ch w', Rp ch w' → Q (.panic ch) a w')
    (next : ∀ v w' a', R v w' → Fr N ds (M' v) a' → WI P r ops Q (k + 1) a' w') : WI P r ops Q k a w := by
  have hs := hs.eq
  cases ho : plainAt ops k M with
  | none => rw [ho] at hs; simp at hs
  | some o =>
    rw [ho] at hs
    simp only [Option.bind_some] at hs
    split at hs
    · rename_i f' args' hpu
      simp at hs
      obtain ⟨rfl, rfl⟩ := hs
      obtain ⟨h1, h2, h3⟩ := plainAt_spec (r := r) ho hF
      refine WI.consQ h1 h2 ⟨fun _ _ => trivial, ?_⟩
      change o.uponIn (F0 r) 0 P a _ Q ((o.semAt r a.eval).run P w)
      rw [h3, pureSem_run _ _ hpu w]
      refine ⟨fun h => by simp [F0, Fence.wide] at h, callsIn_F0.2 (Calls.mono hc ?_)⟩
      rintro e w'' (⟨v, rfl, hv⟩ | ⟨ch, rfl, hv⟩)
      · exact next v w'' _ hv (nextM_spec h1 hdst hF (hM v))
      · exact hp ch w'' hv
    · simp at hs
structure PanicAt (ops : Array Oper) (k : Nat) (M : List (Nat × Value)) (t : TypeId) (v : Value) : Prop where
  eq : ((plainAt ops k M).bind fun o => match o.op with | .panic x => some (rhoE (ofM M) x) | _ => none) = some (.iface t v)
theorem panic_ {t : TypeId} {v : Value} (hF : Fr N ds M a) (hs : PanicAt ops k M t v) (h : Q (.panic [{ v := .iface t v, recovered := false }]) a w) : WI P r ops Q k a w := by
  have hs := hs.eq
  cases ho : plainAt ops k M with
  | none => rw [ho] at hs; simp at hs
  | some o =>
    rw [ho] at hs
    simp only [Option.bind_some] at hs
    split at hs
    · rename_i x hop
      simp only [Option.some.injEq] at hs
      obtain ⟨h1, h2, h3⟩ := plainAt_spec (r := r) ho hF
      refine WI.consQ h1 h2 ⟨fun _ _ => trivial, ?_⟩
      change o.uponIn (F0 r) 0 P a _ Q ((o.semAt r a.eval).run P w)
      have : (execOp (rhoE (ofM M)) o).run P w = .halt (.panic (.iface t v)) w := by
        unfold execOp
        rw [hop]
        simp [Instr.panic, hs, goPanic]
      rw [h3, this]
      exact h
    · simp at hs
theorem fn_panic {fn : Func} {R : Ending → World → Prop} {ch : List PanicEntry} (hF : Fr N [] M a) (hR : R (.panicked ch) w) : bodyPost P fn R (.panic ch) a w := ⟨hF.defers, hR⟩
/-- A deferred call. -/
structure DeferAt (P : Program) (ops : Array Oper) (k : Nat) (M : List (Nat × Value)) (d : Deferred) : Prop where
  eq : ((ops[k]?).bind fun o => match o.guard with
    | none => bif o.op.operands.toList.all (okOperand (ofM M) []) && (match o.op with | .defer _ => true | _ => false) then (match pureSem P (execOp (rhoE (ofM M)) o) with | some (.defer d) => some d | _ => none) else none
    | some _ => none) = some d
theorem defer_ (k' : Nat) (d : Deferred) (M' : List (Nat × Value)) (hF : Fr N ds M a) (hdst : dstOk ops N = true) (hs : DeferAt P ops k M d) (hM : NextM ops k M undef M') (hk : k + 1 = k')
    (next : ∀ a', Fr N (d :: ds) M' a' → WI P none ops Q k' a' w) : WI P none ops Q k a w := by
  subst hk
  have hs := hs.eq
  cases ho : ops[k]? with
  | none => rw [ho] at hs; simp at hs
  | some o =>
    rw [ho] at hs
    simp only [Option.bind_some] at hs
    cases hg : o.guard with
    | some g => rw [hg] at hs; simp at hs
    | none =>
      rw [hg] at hs
      simp only at hs
      cases hc : (o.op.operands.toList.all (okOperand (ofM M) []) && (match o.op with | .defer _ => true | _ => false)) with
      | false => rw [hc] at hs; simp at hs
      | true =>
        rw [hc] at hs
        simp only [cond_true] at hs
        split at hs
        · rename_i d' hpu
          simp only [Option.some.injEq] at hs
          subst hs
          rw [Bool.and_eq_true, List.all_eq_true] at hc
          have hex : execOp a.eval o = execOp (rhoE (ofM M)) o := by
            refine execOp_congr o (fun cs b hh => by have := hc.2; rw [hh] at this; simp at this) ?_
            intro x hx
            refine eval_operand (cur := []) (coh_ofM M) (fun c hc => by simp at hc) rfl (hc.1 x (by simpa using hx)) ?_
            intro t _ e he
            obtain ⟨h1, h2⟩ := lookE_ofM he
            have := hF.slot _ h2
            simp only at this
            rw [this]; simp [En.val, h1, condsOk]
          refine WI.consQ ho (by simp [Region.wanted, hg]) ⟨fun _ _ => trivial, ?_⟩
          change o.uponIn (F0 none) 0 P a _ Q ((o.semAt none a.eval).run P w)
          rw [Oper.semAt_none, hex, pureSem_run _ _ hpu w]
          have hF' : Fr N (d' :: ds) M { a with defers := d' :: a.defers } := ⟨hF.size, by simp [hF.defers], hF.slot⟩
          exact next _ (nextM_spec ho hdst hF' hM)
        · simp at hs
/-- A function with deferred calls. -/
theorem fn_enterD {f : FuncId} {fn : Func} {c : Code} {args : Array Value} {R : Ending → World → Prop} (hf : P.funcs[f]? = some fn) (hb : fn.body = some c) (N : Nat) (M : List (Nat × Value)) (hN : fn.ntmps = N)
    (hsz : Nat.ble args.size N = true) (hM : M.map (fun p => (args ++ Array.replicate (N - args.size) undef).getD p.1 undef) = M.map Prod.snd) (h : ∀ a w1, w1 = w → Fr N [] M a → WP P none c (bodyPostDIn (F0 none) 0 P fn R) a w1) : Calls P f args w R := by
  refine callsIn_F0 (r := none) (n := 0) |>.1 (callsIn_of_wp_defers hf hb trivial ?_ rfl)
  refine h _ _ rfl ⟨?_, rfl, fun p hp => ?_⟩
  · have := Nat.le_of_ble_eq_true hsz
    simp [hN]; omega
  · rw [hN]; exact List.map_inj_left.1 hM p hp
theorem res_run {fn : Func} (rs : List ResultVar) (vs : List Value) (hF : Fr N ds M a) (hrs : fn.results = rs.toArray) (h : ResOk P w M rs vs) :
    (results fn a.tmps).run P w = .ok (retV vs) w := by
  have hm := resOk_run (a := a) rs vs h hF
  have e : results fn a.tmps = (do let vs ← fn.results.mapM (resVal a.tmps); pure (if h : vs.size = 1 then vs[0] else .tuple vs)) := by
    unfold results
    congr 1
  rw [e, hrs, List.mapM_toArray]
  simp [hm]
  rcases vs with _ | ⟨v, _ | ⟨u, vs⟩⟩ <;> simp [retV]
/-- It returns before anything is deferred. -/
theorem fn_retD0 {fn : Func} {R : Ending → World → Prop} (rs : List ResultVar) (vs : List Value) (hF : Fr N [] M a) (hrs : fn.results = rs.toArray) (h : ResOk P w M rs vs)
    (hR : R (.returned (retV vs)) w) : bodyPostDIn (F0 none) 0 P fn R .ret a w := by
  show LeavesIn (F0 none) 0 P fn a.tmps R a.defers .returning w
  rw [hF.defers]
  exact ⟨_, res_run rs vs hF hrs h, hR⟩
/-- It returns, and one call is deferred. -/
theorem fn_retD1 {fn : Func} {R : Ending → World → Prop} {fv : Nat} {cap : Array Value} (rs : List ResultVar) (hF : Fr N [⟨.fn (.func fv) cap, #[]⟩] M a) (hrs : fn.results = rs.toArray) (hent : ∀ args, pureSem P (callFunc fv args) = some (.enter fv args))
    (h : CallsDIn (F0 none) 0 P fv cap .returning w fun e u' w' => ∃ v, e = .returned v ∧ settle u' = .returning ∧ ∃ vs, ResOk P w' M rs vs ∧ R (.returned (retV vs)) w') : bodyPostDIn (F0 none) 0 P fn R .ret a w := by
  show LeavesIn (F0 none) 0 P fn a.tmps R a.defers .returning w
  rw [hF.defers]
  refine leavesIn_cons (f := fv) (args := cap) (by simp) (fun h => by simp [F0, Fence.wide] at h) ?_ (fun _ _ => trivial) (CallsDIn.mono h ?_)
  · simp only [invoke]
    rw [show (#[] : Array Value) ++ cap = cap by simp]
    exact pureSem_run _ _ (hent cap) w
  · rintro e u' w' ⟨v, rfl, hu, vs, hr, hR⟩
    show LeavesIn (F0 none) 0 P fn a.tmps R [] (settle u') w'
    rw [hu]
    exact ⟨_, res_run rs vs hF hrs hr, hR⟩
/-- It panics, and one call is deferred that recovers. -/
theorem fn_panicD1 {fn : Func} {R : Ending → World → Prop} {fv : Nat} {cap : Array Value} {ch : List PanicEntry} (rs : List ResultVar) (hF : Fr N [⟨.fn (.func fv) cap, #[]⟩] M a) (hrs : fn.results = rs.toArray) (hent : ∀ args, pureSem P (callFunc fv args) = some (.enter fv args))
    (h : CallsDIn (F0 none) 0 P fv cap (.panicking ch) w fun e u' w' => ∃ v, e = .returned v ∧ settle u' = .returning ∧ ∃ vs, ResOk P w' M rs vs ∧ R (.returned (retV vs)) w') : bodyPostDIn (F0 none) 0 P fn R (.panic ch) a w := by
  show LeavesIn (F0 none) 0 P fn a.tmps R a.defers (.panicking ch) w
  rw [hF.defers]
  refine leavesIn_cons (f := fv) (args := cap) (by simp) (fun h => by simp [F0, Fence.wide] at h) ?_ (fun _ _ => trivial) (CallsDIn.mono h ?_)
  · simp only [invoke]
    rw [show (#[] : Array Value) ++ cap = cap by simp]
    exact pureSem_run _ _ (hent cap) w
  · rintro e u' w' ⟨v, rfl, hu, vs, hr, hR⟩
    show LeavesIn (F0 none) 0 P fn a.tmps R [] (settle u') w'
    rw [hu]
    exact ⟨_, res_run rs vs hF hrs hr, hR⟩
/-- What recover gives, and the mode that it leaves. -/
def recV : FrameMode → Value
  | .panicking ({ v, recovered := false, goexit := false } :: _) => v
  | _ => .nilIface
def recU : FrameMode → FrameMode
  | .panicking ({ v, recovered := false, goexit := false } :: older) => .panicking ({ v, recovered := true } :: older)
  | u => u
theorem recoverD_eq (c : Frame) (cs : List Frame) : (recoverD (c :: cs) = some (recV c.mode, { c with mode := recU c.mode } :: cs)) ∨ (recoverD (c :: cs) = none ∧ recV c.mode = .nilIface ∧ recU c.mode = c.mode) := by
  cases hm : c.mode with
  | run => exact .inr (by simp [recoverD, recV, recU, hm])
  | returning => exact .inr (by simp [recoverD, recV, recU, hm])
  | panicking l =>
    cases l with
    | nil => exact .inr (by simp [recoverD, recV, recU, hm])
    | cons x l =>
      obtain ⟨v, rc, ge⟩ := x
      cases rc <;> cases ge
      · exact .inl (by simp [recoverD, recV, recU, hm])
      · exact .inr (by simp [recoverD, recV, recU, hm])
      · exact .inr (by simp [recoverD, recV, recU, hm])
      · exact .inr (by simp [recoverD, recV, recU, hm])
structure RecAt (P : Program) (ops : Array Oper) : Prop where
  eq : ((ops[0]?).map fun o => (o.guard.isNone, match pureSem P (execOp (fun _ => undef) o) with | some .recover => true | _ => false, o.op.operands.size, plainOp o.op)) = some (true, true, 0, true)
theorem callsD_recover {f : FuncId} {fn : Func} {id : Nat} {rest : Code} {args : Array Value} {u : FrameMode} {R : Ending → FrameMode → World → Prop} (hf : P.funcs[f]? = some fn) (hb : fn.body = some (.seq (.region id ops false) rest)) (N : Nat) (M M' : List (Nat × Value)) (hN : fn.ntmps = N)
    (hsz : Nat.ble args.size N = true) (hM : M.map (fun p => (args ++ Array.replicate (N - args.size) undef).getD p.1 undef) = M.map Prod.snd) (hdst : dstOk ops N = true) (hs : RecAt P ops) (hM' : NextM ops 0 M (recV u) M')
    (h : ∀ a, Fr N [] M' a → WI P none ops (Exit.then (WP P none rest (bodyPost P fn fun e w => R e (recU u) w)) (bodyPost P fn fun e w => R e (recU u) w)) 1 a w) : CallsDIn (F0 none) 0 P f args u w R := by
  have hs := hs.eq
  cases ho : ops[0]? with
  | none => rw [ho] at hs; simp at hs
  | some o =>
  rw [ho] at hs
  simp only [Option.map_some, Option.some.injEq, Prod.mk.injEq] at hs
  obtain ⟨hg, hrec, hop, hpl⟩ := hs
  have hF0 : Fr N [] M { tmps := args ++ Array.replicate (fn.ntmps - args.size) undef, defers := [] } := by
    refine ⟨?_, rfl, fun p hp => ?_⟩
    · have := Nat.le_of_ble_eq_true hsz
      simp [hN]; omega
    · rw [hN]; exact List.map_inj_left.1 hM p hp
  refine callsDIn_of_wpSIn hf hb trivial fun c₀ cs hu => wpSIn_seq ?_
  generalize ({ tmps := args ++ Array.replicate (fn.ntmps - args.size) undef, defers := [] } : Act) = a at hF0
  have hws : Region.wanted o (yielded ops a.tmps) = true := by
    cases hgg : o.guard with
    | none => simp [Region.wanted, hgg]
    | some g => rw [hgg] at hg; simp at hg
  have hex : execOp a.eval o = execOp (fun _ => undef) o := by
    refine execOp_congr o (fun cs b hh => by rw [hh] at hpl; simp [plainOp] at hpl) ?_
    intro x hx
    have : o.op.operands = #[] := Array.eq_empty_of_size_eq_zero hop
    rw [this] at hx; simp at hx
  have hrun : (execOp a.eval o).run P w = .ok .recover w := by
    rw [hex]
    split at hrec
    · rename_i hp; exact pureSem_run _ _ hp w
    · simp at hrec
  have hi : 0 < ops.size := (Array.getElem?_eq_some_iff.1 ho).1
  have hrange : List.range ops.size = 0 :: List.range' 1 (ops.size - 1) := by
    rw [List.range_eq_range', show ops.size = (ops.size - 1) + 1 by omega, List.range'_succ]; simp
  intro b k hbk hro hFb hroom
  have hq := h (a.put o.dst (recV u)) (nextM_spec ho hdst hF0 hM')
  have hkey : ∀ cs', cs' = { c₀ with mode := recU u } :: cs → step P (lone (b.atR a (.inRegion ops (List.range ops.size) :: k)) (c₀ :: cs) w) = .next (lone (b.atR (a.put o.dst (recV u)) (.inRegion ops (List.range' 1 (ops.size - 1)) :: k)) cs' w) := by
    rintro cs' rfl
    rw [hrange]
    have hg := stepGR_op (P := P) (b := b) (k := k) (cs := c₀ :: cs) (w := w) (rest := List.range' 1 (ops.size - 1)) ho hws
    rw [hro, Oper.semAt_none] at hg
    have hfin : ∀ v, (b.atR a (.inRegion ops (0 :: List.range' 1 (ops.size - 1)) :: k)).finish v = b.atR (a.put o.dst v) (.inRegion ops (List.range' 1 (ops.size - 1)) :: k) := by
      intro v; rw [Frame.finish_atR, ho]; rfl
    have hk : (b.atR a (.inRegion ops (0 :: List.range' 1 (ops.size - 1)) :: k)).kind = .deferred := hbk
    have htr := tryRecover_deferred hk (c₀ :: cs)
    rcases recoverD_eq c₀ cs with hr | ⟨hr, hv, hm⟩
    · rw [hu] at hr
      refine step_lone_go ?_
      rw [hg, ← hfin]
      simp only [Frame.atR, hro] at htr ⊢
      simp [stepG.apply, hrun, htr, hr]
    · rw [hu] at hv hm
      have hc : ({ c₀ with mode := recU u } : Frame) = c₀ := by rw [hm, ← hu]
      refine step_lone_go ?_
      rw [hg, hc, hv, ← hfin]
      simp only [Frame.atR, hro] at htr ⊢
      simp [stepG.apply, hrun, htr, hr]
  obtain ⟨e, a', w', hqe, harr⟩ := wp_opsIn _ _ _ hq b k ({ c₀ with mode := recU u } :: cs) hro hFb hroom
  refine ⟨e, a', { c₀ with mode := recU u } :: cs, w', rfl, ?_, .of_steps (StepsIn.trans (.one (fenced_calm hFb hroom rfl) stepR_region) (.one (fenced_F0 _ _ _) (hkey _ rfl))) harr⟩
  have hB : ∀ e a w, bodyPost P fn (fun e w => R e (recU u) w) e a w → bodyPostS P fn c₀ cs R e a ({ c₀ with mode := recU u } :: cs) w := by
    intro e a w hb
    cases e with
    | normal => obtain ⟨h1, v, h2, h3⟩ := hb; exact ⟨h1, _, rfl, v, h2, h3⟩
    | ret => obtain ⟨h1, v, h2, h3⟩ := hb; exact ⟨h1, _, rfl, v, h2, h3⟩
    | panic ch => obtain ⟨h1, h2⟩ := hb; exact ⟨h1, _, rfl, h2⟩
    | outgrown => exact ⟨_, hb⟩
    | exit id => exact hb.elim
    | goto l => exact hb.elim
  cases e with
  | normal => exact wpSIn_of_wpIn rfl (wpIn_mono hqe fun e a w h => hB e a w h)
  | ret => exact hB .ret _ _ hqe
  | panic ch => exact hB (.panic ch) _ _ hqe
  | outgrown => exact hB .outgrown a' w' hqe
  | exit id => exact hqe.elim
  | goto l => exact hqe.elim
end
end Go.Eng
