import Derived.Test.YtejffembnkojjaaEngD7
/- The engine, part D8: segments that leave slots whose guards are known to be met. -/
namespace Go.Eng
open Go Go.RowKit
set_option linter.unusedVariables false
set_option linter.unusedSimpArgs false
structure EndsC (P : Program) (ops : Array Oper) (n k : Nat) (M : List (Nat × Value)) (M' : List (Nat × En)) (obs : List Ob) : Prop where
  eq : ((evalSeg P ops n k (ofM M) (obs.map Ob.v)).map fun x => (M'.map (fun p => lookE x.1 p.1), x.2)) = some (M'.map (fun p => some p.2), obs)
section
variable {P : Program} {r : Option Nat} {ops : Array Oper} {T : World → World → Prop} {Q : Exit → Act → World → Prop} {N : Nat} {ds : List Deferred} {M : List (Nat × Value)} {M' : List (Nat × En)} {a : Act} {w : World} {obs : List Ob}
theorem ends_specC {n k : Nat} (hT : Trans T) (h : EndsC P ops n k M M' obs) (hC : (M'.all fun p => condsOk p.2.conds) = true) (D : World → Prop) (hob : Obs P T D obs) : ∃ (Φ : List Asn), Φ.length = n ∧ Seg P r ops T D Φ k (toA (ofM M)) ∧ (∀ φ ∈ Φ, Stab T φ) ∧
    ∀ a' w', a'.tmps.size = N → a'.defers = ds → EnvOk (envL ops Φ k (toA (ofM M))) a' w' → Fr N ds (M'.map fun p => (p.1, p.2.v)) a' := by
  have h := h.eq
  cases hev : evalSeg P ops n k (ofM M) (obs.map Ob.v) with
  | none => rw [hev] at h; simp at h
  | some x =>
    obtain ⟨E', obs'⟩ := x
    rw [hev] at h
    simp only [Option.map_some, Option.some.injEq, Prod.mk.injEq] at h
    obtain ⟨h1, rfl⟩ := h
    obtain ⟨Φ, hl, hseg, hst, henv⟩ := evalSeg_spec (r := r) hT n k _ _ _ _ hev (coh_ofM M) hob
    refine ⟨Φ, hl, hseg, hst, fun a' w' hN hd hE => ⟨hN, hd, ?_⟩⟩
    intro q hq
    obtain ⟨p, hp, rfl⟩ := List.mem_map.1 hq
    rw [henv] at hE
    have hlk : lookE E' p.1 = some p.2 := List.map_inj_left.1 h1 p hp
    have := hE p.1 (fun v _ => v = p.2.val) (by rw [lookA_toA, hlk]; rfl)
    have hc := List.all_eq_true.1 hC p hp
    simpa [En.val, hc] using this
theorem run_C {n k : Nat} (k' : Nat) (M' : List (Nat × En)) (hF : Fr N ds M a) (hdst : dstOk ops N = true) (hob : Obs P (fun a b => b = a) (fun x => x = w) obs) (h : EndsC P ops n k M M' obs) (hC : (M'.all fun p => condsOk p.2.conds) = true) (hk : k + n = k')
    (next : ∀ a', Fr N ds (M'.map fun p => (p.1, p.2.v)) a' → WI P r ops Q k' a' w) : WI P r ops Q k a w := by
  obtain ⟨Φ, hl, hseg, hst, hfin⟩ := ends_specC (r := r) (N := N) (ds := ds) trans_eq h hC (fun x => x = w) hob
  refine seg_seq trans_eq (fun _ _ h k => k.trans h) hdst Φ k _ a w hseg hst (stab_toA _ _) rfl hF.size (envOk_ofM hF w) ?_
  intro a' w' hw hN hd hE
  subst hw
  rw [hl, hk]
  exact next a' (hfin a' w' hN (hd.trans hF.defers) hE)
theorem runXC {n k : Nat} (k' : Nat) (M' : List (Nat × En)) (hF : Fr N ds M a) (hdst : dstOk ops N = true) (hob : Obs P Ext (Ext w) obs) (h : EndsC P ops n k M M' obs) (hC : (M'.all fun p => condsOk p.2.conds) = true) (hk : k + n = k')
    (next : ∀ a' w', Fr N ds (M'.map fun p => (p.1, p.2.v)) a' → Ext w w' → WI P r ops Q k' a' w') : WI P r ops Q k a w := by
  obtain ⟨Φ, hl, hseg, hst, hfin⟩ := ends_specC (r := r) (N := N) (ds := ds) trans_ext h hC (Ext w) hob
  refine seg_seq trans_ext (fun _ _ h k => h.trans k) hdst Φ k _ a w hseg hst (stab_toA _ _) (Ext.refl w) hF.size (envOk_ofM hF w) ?_
  intro a' w' hw hN hd hE
  rw [hl, hk]
  exact next a' w' (hfin a' w' hN (hd.trans hF.defers) hE) hw
end
end Go.Eng
