/- How data that came in are read, written by program (wip/gen/row.py). -/
import Derived.Test.YtbhjgebjojdohaaF9EB
import Derived.Test.YtbhjgebjojdohaaF9XD
import Derived.Test.YtbhjgebjojdohaaProg
import Derived.OpenShut
namespace Go.Proofs.Ytbhjgebjojdohaa
open Go Go.RowKit Go.Eng
set_option linter.unusedVariables false
def ok5 (x : Int) : Prop := 0 ≤ x ∧ x ≤ 255
theorem rd5 {H : Type} {enc : TypeId × Value → H} {w : World} {cs : List Value} (h : Reads enc Try.prog w 5 cs) : ∃ (x : Int), cs = [.int .u8 x] ∧ ok5 x := by
  obtain ⟨n, e, k⟩ := Reads.int Try.underlying5 h
  exact ⟨n, e, bounds_u8 k⟩

def ok91 (l : (List Int)) : Prop := ∀ y ∈ l, ok5 y
theorem rd91 {H : Type} {enc : TypeId × Value → H} {w : World} {cs : List Value} (h : Reads enc Try.prog w 91 cs) : ∃ (x : (List Int)) (ad1 : Option Addr) (cap2 : Nat), cs = [.slice ad1 x.length cap2] ∧ ArrM (memOf w) 1 (fK .u8) ad1 cap2 x ∧ ok91 x := by
  obtain ⟨ad, cap, l, e, hA, k⟩ := Reads.slice (f := (fK .u8)) (ok := ok5) (sz := 1) Try.underlying91 (by kernel_rfl) (by decide) (fun c _ hr => rd5 hr) (fK_len .u8) h
  exact ⟨l, ad, cap, e, hA, k⟩

def ok82 (l : (List (List Int))) : Prop := ∀ y ∈ l, ok91 y
theorem rd82 {H : Type} {enc : TypeId × Value → H} {w : World} {cs : List Value} (h : Reads enc Try.prog w 82 cs) : ∃ (x : (List (List Int))) (ad1 : Option Addr) (cap2 : Nat) (css3 : List (List Value)), cs = [.slice ad1 x.length cap2] ∧ ArrQ (memOf w) 1 Rp91 ad1 cap2 css3 x ∧ ok82 x := by
  obtain ⟨ad, cap, css, l, e, hA, k⟩ := Reads.sliceQ (R := Rp91) (ok := ok91) (sz := 1) Try.underlying82 (by kernel_rfl) (by decide) (fun c _ hr => by
    obtain ⟨x, ad1, cap2, e, f0, k⟩ := rd91 hr
    exact ⟨x, ⟨ad1, cap2, e, f0⟩, k⟩) h
  exact ⟨l, ad, cap, css, e, hA, k⟩
end Go.Proofs.Ytbhjgebjojdohaa
