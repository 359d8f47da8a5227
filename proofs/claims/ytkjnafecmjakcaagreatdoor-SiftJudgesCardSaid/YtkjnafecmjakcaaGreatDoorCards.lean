/-
  DERIVED. GIVEN WITH THE SEED: THE CARDS: each row of YtkjnafecmjakcaaGreatDoorRows.lean that lists a variable, with what it lists TIED to the program's text (the seventh form; the later family's looks); each row that meets fmt, with fmt's text TOLD by the authors' own Lean function (tested against real Go, not proved from fmt's source: count such statements apart). THE CARD IS WHAT COUNTS. Prove the row's statement (the work); the ties are given (YtkjnafecmjakcaaGreatDoorTie.lean); close each card by the builder's one call (the guide's Derived/Test/ToyasCard.lean, 'card_holds'). Laid BY PROGRAM, IN A SANDBOX (cutbox-door.mjs). By AI agents, Wed Nov 11 2026. No macro, syntax, notation, axiom, sorry.
-/
import Derived.Test.YtkjnafecmjakcaaGreatDoorRows
import GoSem.ClaimSeven
namespace Go.Proofs.YtkjnafecmjakcaaGreatDoor
namespace Rows

/-- THE TIED CARD OF 'radomelaw04.SiftRules'. -/
def siftRulesCard : Claim7 := { stood := { row := siftRulesRow, standIns := [], harness := (true, "3de6c83bc9db30451920562dd0c4da14b1955e9370e7c5ef66bab2017ef72f53"), looks := true }, kinds := [], alts := [], laidByText := true, laidKinds := [.data, .data, .data], laidTests := true, laidLooks := .later }
def SiftRulesCardSaid : Prop := Claim7.holds Tryz.pinned (.plain (OpenSpec.ofChange siftRulesSpec)) siftRulesCard

/-- THE TIED CARD OF 'radomelaw04.SiftTruth'. -/
def siftTruthCard : Claim7 := { stood := { row := siftTruthRow, standIns := [], harness := (true, "3de6c83bc9db30451920562dd0c4da14b1955e9370e7c5ef66bab2017ef72f53"), looks := true }, kinds := [], alts := [], laidByText := true, laidKinds := [.data, .data, .data], laidTests := true, laidLooks := .later }
def SiftTruthCardSaid : Prop := Claim7.holds Tryz.pinned (.plain (OpenSpec.ofChange siftTruthSpec)) siftTruthCard

/-- THE TIED CARD OF 'radomelaw04.SiftTexts'. -/
def siftTextsCard : Claim7 := { stood := { row := siftTextsRow, standIns := [], harness := (true, "3de6c83bc9db30451920562dd0c4da14b1955e9370e7c5ef66bab2017ef72f53"), looks := true }, kinds := [], alts := [], laidByText := true, laidKinds := [.data, .data, .data], laidTests := true, laidLooks := .later }
def SiftTextsCardSaid : Prop := Claim7.holds Tryz.pinned (.plain (OpenSpec.ofChange siftTextsSpec)) siftTextsCard

/-- THE TIED CARD OF 'radomelaw04.SiftPlain'. -/
def siftPlainCard : Claim7 := { stood := { row := siftPlainRow, standIns := [], harness := (true, "3de6c83bc9db30451920562dd0c4da14b1955e9370e7c5ef66bab2017ef72f53"), looks := true }, kinds := [], alts := [], laidByText := true, laidKinds := [.data, .data, .data], laidTests := true, laidLooks := .later }
def SiftPlainCardSaid : Prop := Claim7.holds Tryz.pinned (.plain (OpenSpec.ofChange siftPlainSpec)) siftPlainCard

/-- THE TIED CARD OF 'radomelaw04.SiftNear'. -/
def siftNearCard : Claim7 := { stood := { row := siftNearRow, standIns := [], harness := (true, "3de6c83bc9db30451920562dd0c4da14b1955e9370e7c5ef66bab2017ef72f53"), looks := true }, kinds := [], alts := [], laidByText := true, laidKinds := [.data, .data, .data], laidTests := true, laidLooks := .later }
def SiftNearCardSaid : Prop := Claim7.holds Tryz.pinned (.plain (OpenSpec.ofChange siftNearSpec)) siftNearCard

/-- THE TIED CARD OF 'radomelaw04.SiftTests'. -/
def siftTestsCard : Claim7 := { stood := { row := siftTestsRow, standIns := [], harness := (true, "3de6c83bc9db30451920562dd0c4da14b1955e9370e7c5ef66bab2017ef72f53"), looks := true }, kinds := [], alts := [], laidByText := true, laidKinds := [.data, .data, .data], laidTests := true, laidLooks := .later }
def SiftTestsCardSaid : Prop := Claim7.holds Tryz.pinned (.plain (OpenSpec.ofChange siftTestsSpec)) siftTestsCard

/-- THE TIED CARD OF 'radomelaw04.SiftValues'. -/
def siftValuesCard : Claim7 := { stood := { row := siftValuesRow, standIns := [], harness := (true, "3de6c83bc9db30451920562dd0c4da14b1955e9370e7c5ef66bab2017ef72f53"), looks := true }, kinds := [], alts := [], laidByText := true, laidKinds := [.data, .data, .data], laidTests := true, laidLooks := .later }
def SiftValuesCardSaid : Prop := Claim7.holds Tryz.pinned (.plain (OpenSpec.ofChange siftValuesSpec)) siftValuesCard

/-- THE TIED CARD OF 'radomelaw04.SiftJudges'. -/
def siftJudgesCard : Claim7 := { stood := { row := siftJudgesRow, standIns := [], harness := (true, "3de6c83bc9db30451920562dd0c4da14b1955e9370e7c5ef66bab2017ef72f53"), looks := true }, kinds := [], alts := [], laidByText := true, laidKinds := [.data, .data, .data], laidTests := true, laidLooks := .later }
def SiftJudgesCardSaid : Prop := Claim7.holds Tryz.pinned (.plain (OpenSpec.ofChange siftJudgesSpec)) siftJudgesCard

/-- THE TIED CARD OF 'radomelaw04.SiftReasons'. -/
def siftReasonsCard : Claim7 := { stood := { row := siftReasonsRow, standIns := [], harness := (true, "3de6c83bc9db30451920562dd0c4da14b1955e9370e7c5ef66bab2017ef72f53"), looks := true }, kinds := [], alts := [], laidByText := true, laidKinds := [.data, .data, .data], laidTests := true, laidLooks := .later }
def SiftReasonsCardSaid : Prop := Claim7.holds Tryz.pinned (.plain (OpenSpec.ofChange siftReasonsSpec)) siftReasonsCard

/-- THE SECOND FORM's CARD OF 'radomelaw04.SiftRules'. -/
def siftRulesUptoCard : Claim7 := { stood := { row := siftRulesUptoRow, standIns := [], harness := (true, "3de6c83bc9db30451920562dd0c4da14b1955e9370e7c5ef66bab2017ef72f53"), looks := true }, kinds := [], alts := [], laidByText := true, laidKinds := [.data, .data, .data], laidTests := true, laidLooks := .later }
def SiftRulesUptoCardSaid : Prop := Claim7.holds Tryz.pinned (.plain (OpenSpec.upto siftRulesSpec)) siftRulesUptoCard

/-- THE SECOND FORM's CARD OF 'radomelaw04.SiftTruth'. -/
def siftTruthUptoCard : Claim7 := { stood := { row := siftTruthUptoRow, standIns := [], harness := (true, "3de6c83bc9db30451920562dd0c4da14b1955e9370e7c5ef66bab2017ef72f53"), looks := true }, kinds := [], alts := [], laidByText := true, laidKinds := [.data, .data, .data], laidTests := true, laidLooks := .later }
def SiftTruthUptoCardSaid : Prop := Claim7.holds Tryz.pinned (.plain (OpenSpec.upto siftTruthSpec)) siftTruthUptoCard

/-- THE SECOND FORM's CARD OF 'radomelaw04.SiftTexts'. -/
def siftTextsUptoCard : Claim7 := { stood := { row := siftTextsUptoRow, standIns := [], harness := (true, "3de6c83bc9db30451920562dd0c4da14b1955e9370e7c5ef66bab2017ef72f53"), looks := true }, kinds := [], alts := [], laidByText := true, laidKinds := [.data, .data, .data], laidTests := true, laidLooks := .later }
def SiftTextsUptoCardSaid : Prop := Claim7.holds Tryz.pinned (.plain (OpenSpec.upto siftTextsSpec)) siftTextsUptoCard

/-- THE SECOND FORM's CARD OF 'radomelaw04.SiftPlain'. -/
def siftPlainUptoCard : Claim7 := { stood := { row := siftPlainUptoRow, standIns := [], harness := (true, "3de6c83bc9db30451920562dd0c4da14b1955e9370e7c5ef66bab2017ef72f53"), looks := true }, kinds := [], alts := [], laidByText := true, laidKinds := [.data, .data, .data], laidTests := true, laidLooks := .later }
def SiftPlainUptoCardSaid : Prop := Claim7.holds Tryz.pinned (.plain (OpenSpec.upto siftPlainSpec)) siftPlainUptoCard

/-- THE SECOND FORM's CARD OF 'radomelaw04.SiftNear'. -/
def siftNearUptoCard : Claim7 := { stood := { row := siftNearUptoRow, standIns := [], harness := (true, "3de6c83bc9db30451920562dd0c4da14b1955e9370e7c5ef66bab2017ef72f53"), looks := true }, kinds := [], alts := [], laidByText := true, laidKinds := [.data, .data, .data], laidTests := true, laidLooks := .later }
def SiftNearUptoCardSaid : Prop := Claim7.holds Tryz.pinned (.plain (OpenSpec.upto siftNearSpec)) siftNearUptoCard

/-- THE SECOND FORM's CARD OF 'radomelaw04.SiftTests'. -/
def siftTestsUptoCard : Claim7 := { stood := { row := siftTestsUptoRow, standIns := [], harness := (true, "3de6c83bc9db30451920562dd0c4da14b1955e9370e7c5ef66bab2017ef72f53"), looks := true }, kinds := [], alts := [], laidByText := true, laidKinds := [.data, .data, .data], laidTests := true, laidLooks := .later }
def SiftTestsUptoCardSaid : Prop := Claim7.holds Tryz.pinned (.plain (OpenSpec.upto siftTestsSpec)) siftTestsUptoCard

/-- THE SECOND FORM's CARD OF 'radomelaw04.SiftValues'. -/
def siftValuesUptoCard : Claim7 := { stood := { row := siftValuesUptoRow, standIns := [], harness := (true, "3de6c83bc9db30451920562dd0c4da14b1955e9370e7c5ef66bab2017ef72f53"), looks := true }, kinds := [], alts := [], laidByText := true, laidKinds := [.data, .data, .data], laidTests := true, laidLooks := .later }
def SiftValuesUptoCardSaid : Prop := Claim7.holds Tryz.pinned (.plain (OpenSpec.upto siftValuesSpec)) siftValuesUptoCard

/-- THE SECOND FORM's CARD OF 'radomelaw04.SiftJudges'. -/
def siftJudgesUptoCard : Claim7 := { stood := { row := siftJudgesUptoRow, standIns := [], harness := (true, "3de6c83bc9db30451920562dd0c4da14b1955e9370e7c5ef66bab2017ef72f53"), looks := true }, kinds := [], alts := [], laidByText := true, laidKinds := [.data, .data, .data], laidTests := true, laidLooks := .later }
def SiftJudgesUptoCardSaid : Prop := Claim7.holds Tryz.pinned (.plain (OpenSpec.upto siftJudgesSpec)) siftJudgesUptoCard

/-- THE SECOND FORM's CARD OF 'radomelaw04.SiftReasons'. -/
def siftReasonsUptoCard : Claim7 := { stood := { row := siftReasonsUptoRow, standIns := [], harness := (true, "3de6c83bc9db30451920562dd0c4da14b1955e9370e7c5ef66bab2017ef72f53"), looks := true }, kinds := [], alts := [], laidByText := true, laidKinds := [.data, .data, .data], laidTests := true, laidLooks := .later }
def SiftReasonsUptoCardSaid : Prop := Claim7.holds Tryz.pinned (.plain (OpenSpec.upto siftReasonsSpec)) siftReasonsUptoCard
end Rows
end Go.Proofs.YtkjnafecmjakcaaGreatDoor
