/- The engine: short names for what the walks say often. -/
import Derived.Test.YtejffembnkojjaaEngD11
namespace Go.Eng
open Go Go.RowKit
abbrev iv (n : Int) : Value := .int .i64 n
abbrev pb (b : Nat) : Value := .pointer (some ⟨b, 0, none⟩)
section
variable {P : Program} {r : Option Nat} {ops : Array Oper} {Q : Exit → Act → World → Prop} {K : Act → World → Prop} {N : Nat} {ds : List Deferred} {M : List (Nat × Value)} {a : Act} {w : World}
theorem esr {id : Nat} {ops : Array Oper} {y : Code} (h : WI P r ops (Exit.then (fun a w => WP P r y Q a w) Q) 0 a w) : WP P r (.seq (.region id ops false) y) Q a w := eseq (WI.region h)
theorem wfn {k : Nat} (hk : Nat.beq k ops.size = true) (h : K a w) : WI P r ops (Exit.then K Q) k a w := WI.fin hk (norm_then h)
theorem rn {k : Nat} (n k' : Nat) (M' : List (Nat × Value)) (hF : Fr N ds M a) (next : ∀ a', Fr N ds M' a' → WI P r ops Q k' a' w) (hdst : dstOk ops N = true := by kernel_rfl) (h : Ends P ops n k M M' [] := by exact ⟨by kernel_rfl⟩) (hk : k + n = k' := by rfl) : WI P r ops Q k a w :=
  run_ k' M' hF hdst onil h hk next
theorem rno {k : Nat} (n : Nat) (obs : List Ob) (k' : Nat) (M' : List (Nat × Value)) (hF : Fr N ds M a) (hob : Obs P (fun a b => b = a) (fun x => x = w) obs) (next : ∀ a', Fr N ds M' a' → WI P r ops Q k' a' w) (hdst : dstOk ops N = true := by kernel_rfl) (h : Ends P ops n k M M' obs := by exact ⟨by kernel_rfl⟩) (hk : k + n = k' := by rfl) : WI P r ops Q k a w :=
  run_ k' M' hF hdst hob h hk next
theorem rx {k : Nat} (n : Nat) (obs : List Ob) (k' : Nat) (M' : List (Nat × Value)) (hF : Fr N ds M a) (hob : Obs P Ext (Ext w) obs) (next : ∀ a' w', Fr N ds M' a' → Ext w w' → WI P r ops Q k' a' w') (hdst : dstOk ops N = true := by kernel_rfl) (h : Ends P ops n k M M' obs := by exact ⟨by kernel_rfl⟩) (hk : k + n = k' := by rfl) : WI P r ops Q k a w :=
  runX k' M' hF hdst hob h hk next
end
end Go.Eng
