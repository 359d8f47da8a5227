/- How what came in fits the laws outright of chapter 6. -/
import Derived.Test.YtejffembnkojjaaC10XR
import Derived.Test.YtejffembnkojjaaC10XL8
namespace Go.Proofs.Ytejffembnkojjaa
open Go Go.Eng Go.Plan
theorem arr_len {α : Type} {w : World} {sz cap : Nat} {f : α → List Value} {ad : Option Addr} {l : List α} (h : ArrM (memOf w) sz f ad cap l) : l.length ≤ 9223372036854775807 := by
  obtain ⟨_, ad', cap', _, _, h1, h2, _⟩ := h w (memOf_at w)
  have : maxLen = 9223372036854775807 := rfl
  omega
theorem wishOk {x : law06_Wish} (h : ok90 x) : OkW x := ⟨h.1, h.2.1, h.2.2.1, h.2.2.2.1, h.2.2.2.2.1, h.2.2.2.2.2⟩
theorem deskOk {d : law06_Desk} (h : ok75 d) {w : World} {cap : Nat} {ad : Option Addr} (hA : ArrM (memOf w) 6 law06_Wish.cells ad cap d.Jobs) : OkD d :=
  ⟨h.1, h.2.1, h.2.2.1, h.2.2.2.1, fun x hx => wishOk (h.2.2.2.2 x hx), arr_len hA⟩
end Go.Proofs.Ytejffembnkojjaa
