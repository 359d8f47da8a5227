import Derived.Test.YtejffembnkojjaaEngD9
/- The engine, part D10: which panics are caught. -/
namespace Go.Eng
open Go Go.RowKit
/-- A value of a type without fields. -/
def isI (t : Nat) : Value → Bool
  | .iface u (.agg cs) => Nat.beq u t && Nat.beq cs.size 0
  | _ => false
theorem isI_eq {t : Nat} {v : Value} (h : isI t v = true) : v = .iface t (.agg #[]) := by
  unfold isI at h
  split at h
  · rename_i u cs
    rw [Bool.and_eq_true, Nat.beq_eq, Nat.beq_eq] at h
    obtain ⟨rfl, h⟩ := h
    rw [Array.eq_empty_of_size_eq_zero h]
  · cases h
end Go.Eng
