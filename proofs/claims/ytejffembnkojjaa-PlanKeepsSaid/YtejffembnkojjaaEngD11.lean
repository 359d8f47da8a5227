import Derived.Test.YtejffembnkojjaaEngD10
/- The engine, part D11: regions in whatever order whose effects stand under guards. -/
namespace Go.Eng
open Go Go.RowKit
set_option linter.unusedVariables false
section
variable {P : Program} {r : Option Nat} {ops : Array Oper} {D : World → Prop} {eff : List Nat} {K : Act → World → Prop} {N : Nat} {ds : List Deferred} {M M' : List (Nat × Value)} {a : Act} {w : World} {obs : List Ob} {k : Nat}
theorem boolOf_congr (x y : Option Value) : x.getD undef = y.getD undef → (match x with | some (.bool b) => some b | _ => none) = (match y with | some (.bool b) => some b | _ => none) := by
  intro h
  cases x with
  | none =>
    cases y with
    | none => rfl
    | some y => simp at h; subst h; rfl
  | some x =>
    cases y with
    | none => simp at h; subst h; rfl
    | some y => simp at h; subst h; rfl
theorem skip_spec (hF : Fr N ds M a) (hs : SkipAt ops k M) : ∃ o g, ops[k]? = some o ∧ o.guard = some g ∧ guardIs ops M g = some false := by
  have hs := hs.eq
  cases ho : ops[k]? with
  | none => rw [ho] at hs; simp at hs
  | some o =>
    rw [ho] at hs
    simp only [Option.bind_some] at hs
    cases hg : o.guard with
    | none => rw [hg] at hs; simp at hs
    | some g => rw [hg] at hs; exact ⟨o, g, rfl, hg, by simpa using hs⟩
theorem skipSK (M' : List (Nat × Value)) (hF : Fr N ds M a) (hdst : dstOk ops N = true) (hs : SkipAt ops k M) (hM : NextM ops k M undef M')
    (next : ∀ a', Fr N ds M' a' → K a' w) : SK P r ops k K a w := by
  obtain ⟨o, g, ho, hg, hgi⟩ := skip_spec hF hs
  have hw := guardIs_spec hgi hF
  refine ⟨o, ho, ?_⟩
  unfold OpG
  have : Region.wanted o (yielded ops a.tmps) = false := by simp only [Region.wanted, hg]; exact hw
  rw [this]
  exact next _ (nextM_spec ho hdst hF hM)
theorem skipW {rest : List Nat} (M' : List (Nat × Value)) (hF : Fr N ds M a) (hdst : dstOk ops N = true) (hne : eff.contains k = false) (hs : SkipAt ops k M) (hM : NextM ops k M undef M')
    (next : ∀ a', Fr N ds M' a' → WRun P r ops D eff K rest a' w) : WRun P r ops D eff K (k :: rest) a w := by
  obtain ⟨o, g, ho, hg, hgi⟩ := skip_spec hF hs
  have hw := guardIs_spec hgi hF
  have hd : dstAt ops k = o.dst := by simp [dstAt, ho]
  rw [WRun, hne]
  refine ⟨undef, ⟨o, ho, fun a' w' hsame _ => ?_⟩, ?_⟩
  · unfold OpG
    have : Region.wanted o (yielded ops a'.tmps) = false := by
      simp only [Region.wanted, hg]
      rw [← hw]
      congr 1
      obtain ⟨j, b⟩ := g
      unfold yielded
      cases hj : (ops[j]?).bind (·.dst) with
      | none => rfl
      | some t =>
        have := hsame t (by simp [Oper.looksAt, hg, hj])
        rw [Array.getD_eq_getD_getElem?, Array.getD_eq_getD_getElem?] at this
        simp only [Option.bind_some]
        exact boolOf_congr _ _ this
    rw [this]
    exact ⟨rfl, rfl⟩
  · rw [hd]
    exact next _ (nextM_spec ho hdst hF hM)
structure EndsLC (P : Program) (ops : Array Oper) (rs : List Nat) (M : List (Nat × Value)) (M' : List (Nat × En)) (obs : List Ob) : Prop where
  eq : ((evalL P ops rs (ofM M) (obs.map Ob.v)).map fun x => (M'.map (fun p => lookE x.1 p.1), x.2)) = some (M'.map (fun p => some p.2), obs)
theorem runCC {rest : List Nat} (rs : List Nat) (M' : List (Nat × En)) (hF : Fr N ds M a) (hdst : dstOk ops N = true) (hne : rs.all (fun i => !eff.contains i) = true) (hob : Obs P (fun a b => b = a) D obs) (h : EndsLC P ops rs M M' obs) (hC : (M'.all fun p => condsOk p.2.conds) = true)
    (next : ∀ a', Fr N ds (M'.map fun p => (p.1, p.2.v)) a' → WRun P r ops D eff K rest a' w) : WRun P r ops D eff K (rs ++ rest) a w := by
  have h := h.eq
  cases hev : evalL P ops rs (ofM M) (obs.map Ob.v) with
  | none => rw [hev] at h; simp at h
  | some x =>
    obtain ⟨E', obs'⟩ := x
    rw [hev] at h
    simp only [Option.map_some, Option.some.injEq, Prod.mk.injEq] at h
    obtain ⟨h1, rfl⟩ := h
    refine evalL_run hdst rs _ _ _ _ a hev (coh_ofM M) hob hne hF.size (envOk_ofM hF w) ?_
    intro a' hN hd hE
    refine next a' ⟨hN, hd.trans hF.defers, fun q hq => ?_⟩
    obtain ⟨p, hp, rfl⟩ := List.mem_map.1 hq
    have hlk : lookE E' p.1 = some p.2 := List.map_inj_left.1 h1 p hp
    have := hE p.1 (fun v _ => v = p.2.val) (by rw [lookA_toA, hlk]; rfl)
    have hc := List.all_eq_true.1 hC p hp
    simpa [En.val, hc] using this
end
end Go.Eng
