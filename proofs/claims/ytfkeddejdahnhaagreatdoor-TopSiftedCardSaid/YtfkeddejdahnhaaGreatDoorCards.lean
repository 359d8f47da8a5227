/-
  DERIVED. GIVEN WITH THE SEED: THE CARDS: each row of YtfkeddejdahnhaaGreatDoorRows.lean that lists a variable, with what it lists TIED to the program's text (the seventh form; the later family's looks); each row that meets fmt, with fmt's text TOLD by the authors' own Lean function (tested against real Go, not proved from fmt's source: count such statements apart). THE CARD IS WHAT COUNTS. Prove the row's statement (the work); the ties are given (YtfkeddejdahnhaaGreatDoorTie.lean); close each card by the builder's one call (the guide's Derived/Test/ToyasCard.lean, 'card_holds'). Laid BY PROGRAM, IN A SANDBOX (cutbox-door.mjs). By AI agents, Wed Nov 11 2026. No macro, syntax, notation, axiom, sorry.
-/
import Derived.Test.YtfkeddejdahnhaaGreatDoorRows
import GoSem.ClaimSeven
namespace Go.Proofs.YtfkeddejdahnhaaGreatDoor
namespace Rows

/-- THE TIED CARD OF 'radometop.TopSifted'. -/
def topSiftedCard : Claim7 := { stood := { row := topSiftedRow, standIns := [], harness := (true, "8638e72301b4e80c40f26b49876c7fac62d30bf4826e77d6225c3e28bda71932"), looks := true }, kinds := [], alts := [], laidByText := true, laidKinds := [.data, .data, .data], laidTests := true, laidLooks := .later }
def TopSiftedCardSaid : Prop := Claim7.holds Tryz.pinned (.plain (OpenSpec.ofChange topSiftedSpec)) topSiftedCard

/-- THE SECOND FORM's CARD OF 'radometop.TopSifted'. -/
def topSiftedUptoCard : Claim7 := { stood := { row := topSiftedUptoRow, standIns := [], harness := (true, "8638e72301b4e80c40f26b49876c7fac62d30bf4826e77d6225c3e28bda71932"), looks := true }, kinds := [], alts := [], laidByText := true, laidKinds := [.data, .data, .data], laidTests := true, laidLooks := .later }
def TopSiftedUptoCardSaid : Prop := Claim7.holds Tryz.pinned (.plain (OpenSpec.upto topSiftedSpec)) topSiftedUptoCard
end Rows
end Go.Proofs.YtfkeddejdahnhaaGreatDoor
