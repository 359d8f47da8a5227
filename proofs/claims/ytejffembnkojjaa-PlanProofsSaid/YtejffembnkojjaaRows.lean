/-
  No cell of these rows narrows 'for every input' (looked for: loops, veiled, ifaces, maps, wideKeys, modest, calm, conditions, laid).
  DERIVED. THE GIVEN ROWS OF THIS SEAT. 11 by the template 'for every input the law returns true; each argument reads behind the call as it read before'; 0 by the template 'total and deterministic' (their statements: YtejffembnkojjaaTotals.lean).
  GIVEN WITH THE SEED: the statements are not yours to turn. If you find one false, say at which input.
  Laid BY PROGRAM, IN A SANDBOX (cutbox-rows.mjs): the forced cells as the released guide's own fill.sh prints them over the translation 6040e8bf968d20e1… (all of the seat's roots in one cut). By AI agents, Wed Nov 11 2026. No macro, syntax, notation, axiom, sorry.
-/
import Derived.Test.YtejffembnkojjaaChecked
import GoSem.Claim
import GoSem.ClaimJoined
import GoSem.ClaimMapViews
import Derived.JoinedTies
import Derived.KernelRfl
namespace Go.Proofs.Ytejffembnkojjaa
/- THE CELL 'sum', in the pinned program and in every row, IS THE sha256 OF THE DUMP (.gsa) THAT YtejffembnkojjaaProg.lean LOADS. Nothing in Lean hashes anything: it is a label: what it is worth is what the hold of that sum in a sandbox is worth. -/
noncomputable def Try.pinned : Pinned := { name := "ytejffembnkojjaa", sum := "6040e8bf968d20e142799b0d1ff231fabe40fef74b2bd6f4108210228733b83e", checked := Try.checked }
namespace Rows
def none {H : Type} : Left H := { results := [], args := [] }

/-- 'radomelaw06.PlanTimes': WHATEVER THE INPUT: true; the input reads as it did. -/
def planTimesSpec : ChangeSpec := { name := "planTimes", fn := fun _ => fun
  | [d1, d2] => { results := [.lit (.bool true)], args := [d1, d2] }
  | _ => none }
def planTimesRow : OpenClaim := { program := "ytejffembnkojjaa", sum := "6040e8bf968d20e142799b0d1ff231fabe40fef74b2bd6f4108210228733b83e", func := "radome/radomelaw06.PlanTimes", spec := "planTimes", unfollowed := true, recurses := true, apart := false }
def PlanTimesSaid : Prop := planTimesRow.holds Try.pinned (OpenSpec.ofChange planTimesSpec)

/-- ITS FALSE NEIGHBOUR: 'it returns false'. Refute it at one input. -/
def planTimesWrong : ChangeSpec := { name := "planTimes", fn := fun _ => fun
  | [d1, d2] => { results := [.lit (.bool false)], args := [d1, d2] }
  | _ => none }
def PlanTimesWrongFalsely : Prop := planTimesRow.holds Try.pinned (OpenSpec.ofChange planTimesWrong)

/-- 'radomelaw06.PlanJudges': WHATEVER THE INPUT: true; the input reads as it did. -/
def planJudgesSpec : ChangeSpec := { name := "planJudges", fn := fun _ => fun
  | [d1, d2, d3, d4] => { results := [.lit (.bool true)], args := [d1, d2, d3, d4] }
  | _ => none }
def planJudgesRow : OpenClaim := { program := "ytejffembnkojjaa", sum := "6040e8bf968d20e142799b0d1ff231fabe40fef74b2bd6f4108210228733b83e", func := "radome/radomelaw06.PlanJudges", spec := "planJudges", unfollowed := true, recurses := true, apart := false }
def PlanJudgesSaid : Prop := planJudgesRow.holds Try.pinned (OpenSpec.ofChange planJudgesSpec)

/-- ITS FALSE NEIGHBOUR: 'it returns false'. Refute it at one input. -/
def planJudgesWrong : ChangeSpec := { name := "planJudges", fn := fun _ => fun
  | [d1, d2, d3, d4] => { results := [.lit (.bool false)], args := [d1, d2, d3, d4] }
  | _ => none }
def PlanJudgesWrongFalsely : Prop := planJudgesRow.holds Try.pinned (OpenSpec.ofChange planJudgesWrong)

/-- 'radomelaw06.PlanBests': WHATEVER THE INPUT: true; the input reads as it did. -/
def planBestsSpec : ChangeSpec := { name := "planBests", fn := fun _ => fun
  | [d1, d2, d3] => { results := [.lit (.bool true)], args := [d1, d2, d3] }
  | _ => none }
def planBestsRow : OpenClaim := { program := "ytejffembnkojjaa", sum := "6040e8bf968d20e142799b0d1ff231fabe40fef74b2bd6f4108210228733b83e", func := "radome/radomelaw06.PlanBests", spec := "planBests", unfollowed := true, recurses := true, apart := false }
def PlanBestsSaid : Prop := planBestsRow.holds Try.pinned (OpenSpec.ofChange planBestsSpec)

/-- ITS FALSE NEIGHBOUR: 'it returns false'. Refute it at one input. -/
def planBestsWrong : ChangeSpec := { name := "planBests", fn := fun _ => fun
  | [d1, d2, d3] => { results := [.lit (.bool false)], args := [d1, d2, d3] }
  | _ => none }
def PlanBestsWrongFalsely : Prop := planBestsRow.holds Try.pinned (OpenSpec.ofChange planBestsWrong)

/-- 'radomelaw06.PlanRefutes': WHATEVER THE INPUT: true; the input reads as it did. -/
def planRefutesSpec : ChangeSpec := { name := "planRefutes", fn := fun _ => fun
  | [d1, d2, d3, d4] => { results := [.lit (.bool true)], args := [d1, d2, d3, d4] }
  | _ => none }
def planRefutesRow : OpenClaim := { program := "ytejffembnkojjaa", sum := "6040e8bf968d20e142799b0d1ff231fabe40fef74b2bd6f4108210228733b83e", func := "radome/radomelaw06.PlanRefutes", spec := "planRefutes", unfollowed := true, recurses := true, apart := false }
def PlanRefutesSaid : Prop := planRefutesRow.holds Try.pinned (OpenSpec.ofChange planRefutesSpec)

/-- ITS FALSE NEIGHBOUR: 'it returns false'. Refute it at one input. -/
def planRefutesWrong : ChangeSpec := { name := "planRefutes", fn := fun _ => fun
  | [d1, d2, d3, d4] => { results := [.lit (.bool false)], args := [d1, d2, d3, d4] }
  | _ => none }
def PlanRefutesWrongFalsely : Prop := planRefutesRow.holds Try.pinned (OpenSpec.ofChange planRefutesWrong)

/-- 'radomelaw06.PlanInserts': WHATEVER THE INPUT: true; the input reads as it did. -/
def planInsertsSpec : ChangeSpec := { name := "planInserts", fn := fun _ => fun
  | [d1, d2, d3, d4, d5] => { results := [.lit (.bool true)], args := [d1, d2, d3, d4, d5] }
  | _ => none }
def planInsertsRow : OpenClaim := { program := "ytejffembnkojjaa", sum := "6040e8bf968d20e142799b0d1ff231fabe40fef74b2bd6f4108210228733b83e", func := "radome/radomelaw06.PlanInserts", spec := "planInserts", unfollowed := true, recurses := true, apart := false }
def PlanInsertsSaid : Prop := planInsertsRow.holds Try.pinned (OpenSpec.ofChange planInsertsSpec)

/-- ITS FALSE NEIGHBOUR: 'it returns false'. Refute it at one input. -/
def planInsertsWrong : ChangeSpec := { name := "planInserts", fn := fun _ => fun
  | [d1, d2, d3, d4, d5] => { results := [.lit (.bool false)], args := [d1, d2, d3, d4, d5] }
  | _ => none }
def PlanInsertsWrongFalsely : Prop := planInsertsRow.holds Try.pinned (OpenSpec.ofChange planInsertsWrong)

/-- 'radomelaw06.PlanKeeps': WHATEVER THE INPUT: true; the input reads as it did. -/
def planKeepsSpec : ChangeSpec := { name := "planKeeps", fn := fun _ => fun
  | [d1, d2, d3, d4] => { results := [.lit (.bool true)], args := [d1, d2, d3, d4] }
  | _ => none }
def planKeepsRow : OpenClaim := { program := "ytejffembnkojjaa", sum := "6040e8bf968d20e142799b0d1ff231fabe40fef74b2bd6f4108210228733b83e", func := "radome/radomelaw06.PlanKeeps", spec := "planKeeps", unfollowed := true, recurses := true, apart := false }
def PlanKeepsSaid : Prop := planKeepsRow.holds Try.pinned (OpenSpec.ofChange planKeepsSpec)

/-- ITS FALSE NEIGHBOUR: 'it returns false'. Refute it at one input. -/
def planKeepsWrong : ChangeSpec := { name := "planKeeps", fn := fun _ => fun
  | [d1, d2, d3, d4] => { results := [.lit (.bool false)], args := [d1, d2, d3, d4] }
  | _ => none }
def PlanKeepsWrongFalsely : Prop := planKeepsRow.holds Try.pinned (OpenSpec.ofChange planKeepsWrong)

/-- 'radomelaw06.PlanProved': WHATEVER THE INPUT: true; the input reads as it did. -/
def planProvedSpec : ChangeSpec := { name := "planProved", fn := fun _ => fun
  | [d1, d2, d3] => { results := [.lit (.bool true)], args := [d1, d2, d3] }
  | _ => none }
def planProvedRow : OpenClaim := { program := "ytejffembnkojjaa", sum := "6040e8bf968d20e142799b0d1ff231fabe40fef74b2bd6f4108210228733b83e", func := "radome/radomelaw06.PlanProved", spec := "planProved", unfollowed := true, recurses := true, apart := false }
def PlanProvedSaid : Prop := planProvedRow.holds Try.pinned (OpenSpec.ofChange planProvedSpec)

/-- ITS FALSE NEIGHBOUR: 'it returns false'. Refute it at one input. -/
def planProvedWrong : ChangeSpec := { name := "planProved", fn := fun _ => fun
  | [d1, d2, d3] => { results := [.lit (.bool false)], args := [d1, d2, d3] }
  | _ => none }
def PlanProvedWrongFalsely : Prop := planProvedRow.holds Try.pinned (OpenSpec.ofChange planProvedWrong)

/-- 'radomelaw06.PlanProofs': WHATEVER THE INPUT: true; the input reads as it did. -/
def planProofsSpec : ChangeSpec := { name := "planProofs", fn := fun _ => fun
  | [d1, d2, d3, d4] => { results := [.lit (.bool true)], args := [d1, d2, d3, d4] }
  | _ => none }
def planProofsRow : OpenClaim := { program := "ytejffembnkojjaa", sum := "6040e8bf968d20e142799b0d1ff231fabe40fef74b2bd6f4108210228733b83e", func := "radome/radomelaw06.PlanProofs", spec := "planProofs", unfollowed := true, recurses := true, apart := false }
def PlanProofsSaid : Prop := planProofsRow.holds Try.pinned (OpenSpec.ofChange planProofsSpec)

/-- ITS FALSE NEIGHBOUR: 'it returns false'. Refute it at one input. -/
def planProofsWrong : ChangeSpec := { name := "planProofs", fn := fun _ => fun
  | [d1, d2, d3, d4] => { results := [.lit (.bool false)], args := [d1, d2, d3, d4] }
  | _ => none }
def PlanProofsWrongFalsely : Prop := planProofsRow.holds Try.pinned (OpenSpec.ofChange planProofsWrong)

/-- 'radomelaw06.PlanTime': WHATEVER THE INPUT: true; the input reads as it did. -/
def planTimeSpec : ChangeSpec := { name := "planTime", fn := fun _ => fun
  | [d1, d2, d3, d4, d5, d6, d7] => { results := [.lit (.bool true)], args := [d1, d2, d3, d4, d5, d6, d7] }
  | _ => none }
def planTimeRow : OpenClaim := { program := "ytejffembnkojjaa", sum := "6040e8bf968d20e142799b0d1ff231fabe40fef74b2bd6f4108210228733b83e", func := "radome/radomelaw06.PlanTime", spec := "planTime", unfollowed := true, recurses := true, apart := false }
def PlanTimeSaid : Prop := planTimeRow.holds Try.pinned (OpenSpec.ofChange planTimeSpec)

/-- ITS FALSE NEIGHBOUR: 'it returns false'. Refute it at one input. -/
def planTimeWrong : ChangeSpec := { name := "planTime", fn := fun _ => fun
  | [d1, d2, d3, d4, d5, d6, d7] => { results := [.lit (.bool false)], args := [d1, d2, d3, d4, d5, d6, d7] }
  | _ => none }
def PlanTimeWrongFalsely : Prop := planTimeRow.holds Try.pinned (OpenSpec.ofChange planTimeWrong)

/-- 'radomelaw06.PlanMore': WHATEVER THE INPUT: true; the input reads as it did. -/
def planMoreSpec : ChangeSpec := { name := "planMore", fn := fun _ => fun
  | [d1, d2, d3, d4] => { results := [.lit (.bool true)], args := [d1, d2, d3, d4] }
  | _ => none }
def planMoreRow : OpenClaim := { program := "ytejffembnkojjaa", sum := "6040e8bf968d20e142799b0d1ff231fabe40fef74b2bd6f4108210228733b83e", func := "radome/radomelaw06.PlanMore", spec := "planMore", unfollowed := true, recurses := true, apart := false }
def PlanMoreSaid : Prop := planMoreRow.holds Try.pinned (OpenSpec.ofChange planMoreSpec)

/-- ITS FALSE NEIGHBOUR: 'it returns false'. Refute it at one input. -/
def planMoreWrong : ChangeSpec := { name := "planMore", fn := fun _ => fun
  | [d1, d2, d3, d4] => { results := [.lit (.bool false)], args := [d1, d2, d3, d4] }
  | _ => none }
def PlanMoreWrongFalsely : Prop := planMoreRow.holds Try.pinned (OpenSpec.ofChange planMoreWrong)

/-- 'radomelaw06.PlanTells': WHATEVER THE INPUT: true; the input reads as it did. -/
def planTellsSpec : ChangeSpec := { name := "planTells", fn := fun _ => fun
  | [d1, d2, d3] => { results := [.lit (.bool true)], args := [d1, d2, d3] }
  | _ => none }
def planTellsRow : OpenClaim := { program := "ytejffembnkojjaa", sum := "6040e8bf968d20e142799b0d1ff231fabe40fef74b2bd6f4108210228733b83e", func := "radome/radomelaw06.PlanTells", spec := "planTells", unfollowed := true, recurses := true, apart := false }
def PlanTellsSaid : Prop := planTellsRow.holds Try.pinned (OpenSpec.ofChange planTellsSpec)

/-- ITS FALSE NEIGHBOUR: 'it returns false'. Refute it at one input. -/
def planTellsWrong : ChangeSpec := { name := "planTells", fn := fun _ => fun
  | [d1, d2, d3] => { results := [.lit (.bool false)], args := [d1, d2, d3] }
  | _ => none }
def PlanTellsWrongFalsely : Prop := planTellsRow.holds Try.pinned (OpenSpec.ofChange planTellsWrong)

/- THE SECOND FORM. 'bulk': how many values and letters a reading holds, each counted each time it is reached (what is shared counts as often as it is met; a slice's spare places count too). A statement '..UptoSaid' is the law's where the arguments, and the package variables that the reading takes, are together of bulk at most 1048576: NARROWER than '..Said'. Prove '..Said' where nothing that the law and all that it calls make is longer than what came in: it says more and counts as full. Else prove '..UptoSaid'. A law counts once. -/
mutual
def uptoBulk {H : Type} : DataW H → Nat
  | .lit (.string bytes) => bytes.length + 1
  | .lit _ => 1
  | .nil => 1
  | .ptr d => uptoBulk d + 1
  | .slice elems spare => uptoBulkAll elems + uptoBulkAll spare + 1
  | .agg parts => uptoBulkAll parts + 1
  | .iface _ d => uptoBulk d + 1
  | .map entries => uptoBulkEntries entries + 1
  | .held _ => 1
def uptoBulkAll {H : Type} : List (DataW H) → Nat
  | [] => 0
  | d :: r => uptoBulk d + uptoBulkAll r
def uptoBulkEntries {H : Type} : List (Lit × DataW H) → Nat
  | [] => 0
  | x :: r => uptoBulkEntry x + uptoBulkEntries r
def uptoBulkEntry {H : Type} : Lit × DataW H → Nat
  | (.string bytes, d) => bytes.length + uptoBulk d + 1
  | (_, d) => uptoBulk d + 1
 end
def uptoSmall : (H : Type) → List (DataW H) → Bool := fun _ ds => decide (uptoBulkAll ds ≤ 1048576)
def OpenSpec.upto (s : _root_.Go.ChangeSpec) : _root_.Go.OpenSpec := { _root_.Go.OpenSpec.ofChange s with cond := some uptoSmall }

/-- 'radomelaw06.PlanTimes', WHERE WHAT IT READS IS OF BULK AT MOST 1048576: true; the input reads as it did. -/
def planTimesUptoRow : OpenClaim := { program := "ytejffembnkojjaa", sum := "6040e8bf968d20e142799b0d1ff231fabe40fef74b2bd6f4108210228733b83e", func := "radome/radomelaw06.PlanTimes", spec := "planTimes", unfollowed := true, recurses := true, apart := false, narrowed := true }
def PlanTimesUptoSaid : Prop := planTimesUptoRow.holds Try.pinned (OpenSpec.upto planTimesSpec)

/-- 'radomelaw06.PlanJudges', WHERE WHAT IT READS IS OF BULK AT MOST 1048576: true; the input reads as it did. -/
def planJudgesUptoRow : OpenClaim := { program := "ytejffembnkojjaa", sum := "6040e8bf968d20e142799b0d1ff231fabe40fef74b2bd6f4108210228733b83e", func := "radome/radomelaw06.PlanJudges", spec := "planJudges", unfollowed := true, recurses := true, apart := false, narrowed := true }
def PlanJudgesUptoSaid : Prop := planJudgesUptoRow.holds Try.pinned (OpenSpec.upto planJudgesSpec)

/-- 'radomelaw06.PlanBests', WHERE WHAT IT READS IS OF BULK AT MOST 1048576: true; the input reads as it did. -/
def planBestsUptoRow : OpenClaim := { program := "ytejffembnkojjaa", sum := "6040e8bf968d20e142799b0d1ff231fabe40fef74b2bd6f4108210228733b83e", func := "radome/radomelaw06.PlanBests", spec := "planBests", unfollowed := true, recurses := true, apart := false, narrowed := true }
def PlanBestsUptoSaid : Prop := planBestsUptoRow.holds Try.pinned (OpenSpec.upto planBestsSpec)

/-- 'radomelaw06.PlanRefutes', WHERE WHAT IT READS IS OF BULK AT MOST 1048576: true; the input reads as it did. -/
def planRefutesUptoRow : OpenClaim := { program := "ytejffembnkojjaa", sum := "6040e8bf968d20e142799b0d1ff231fabe40fef74b2bd6f4108210228733b83e", func := "radome/radomelaw06.PlanRefutes", spec := "planRefutes", unfollowed := true, recurses := true, apart := false, narrowed := true }
def PlanRefutesUptoSaid : Prop := planRefutesUptoRow.holds Try.pinned (OpenSpec.upto planRefutesSpec)

/-- 'radomelaw06.PlanInserts', WHERE WHAT IT READS IS OF BULK AT MOST 1048576: true; the input reads as it did. -/
def planInsertsUptoRow : OpenClaim := { program := "ytejffembnkojjaa", sum := "6040e8bf968d20e142799b0d1ff231fabe40fef74b2bd6f4108210228733b83e", func := "radome/radomelaw06.PlanInserts", spec := "planInserts", unfollowed := true, recurses := true, apart := false, narrowed := true }
def PlanInsertsUptoSaid : Prop := planInsertsUptoRow.holds Try.pinned (OpenSpec.upto planInsertsSpec)

/-- 'radomelaw06.PlanKeeps', WHERE WHAT IT READS IS OF BULK AT MOST 1048576: true; the input reads as it did. -/
def planKeepsUptoRow : OpenClaim := { program := "ytejffembnkojjaa", sum := "6040e8bf968d20e142799b0d1ff231fabe40fef74b2bd6f4108210228733b83e", func := "radome/radomelaw06.PlanKeeps", spec := "planKeeps", unfollowed := true, recurses := true, apart := false, narrowed := true }
def PlanKeepsUptoSaid : Prop := planKeepsUptoRow.holds Try.pinned (OpenSpec.upto planKeepsSpec)

/-- 'radomelaw06.PlanProved', WHERE WHAT IT READS IS OF BULK AT MOST 1048576: true; the input reads as it did. -/
def planProvedUptoRow : OpenClaim := { program := "ytejffembnkojjaa", sum := "6040e8bf968d20e142799b0d1ff231fabe40fef74b2bd6f4108210228733b83e", func := "radome/radomelaw06.PlanProved", spec := "planProved", unfollowed := true, recurses := true, apart := false, narrowed := true }
def PlanProvedUptoSaid : Prop := planProvedUptoRow.holds Try.pinned (OpenSpec.upto planProvedSpec)

/-- 'radomelaw06.PlanProofs', WHERE WHAT IT READS IS OF BULK AT MOST 1048576: true; the input reads as it did. -/
def planProofsUptoRow : OpenClaim := { program := "ytejffembnkojjaa", sum := "6040e8bf968d20e142799b0d1ff231fabe40fef74b2bd6f4108210228733b83e", func := "radome/radomelaw06.PlanProofs", spec := "planProofs", unfollowed := true, recurses := true, apart := false, narrowed := true }
def PlanProofsUptoSaid : Prop := planProofsUptoRow.holds Try.pinned (OpenSpec.upto planProofsSpec)

/-- 'radomelaw06.PlanTime', WHERE WHAT IT READS IS OF BULK AT MOST 1048576: true; the input reads as it did. -/
def planTimeUptoRow : OpenClaim := { program := "ytejffembnkojjaa", sum := "6040e8bf968d20e142799b0d1ff231fabe40fef74b2bd6f4108210228733b83e", func := "radome/radomelaw06.PlanTime", spec := "planTime", unfollowed := true, recurses := true, apart := false, narrowed := true }
def PlanTimeUptoSaid : Prop := planTimeUptoRow.holds Try.pinned (OpenSpec.upto planTimeSpec)

/-- 'radomelaw06.PlanMore', WHERE WHAT IT READS IS OF BULK AT MOST 1048576: true; the input reads as it did. -/
def planMoreUptoRow : OpenClaim := { program := "ytejffembnkojjaa", sum := "6040e8bf968d20e142799b0d1ff231fabe40fef74b2bd6f4108210228733b83e", func := "radome/radomelaw06.PlanMore", spec := "planMore", unfollowed := true, recurses := true, apart := false, narrowed := true }
def PlanMoreUptoSaid : Prop := planMoreUptoRow.holds Try.pinned (OpenSpec.upto planMoreSpec)

/-- 'radomelaw06.PlanTells', WHERE WHAT IT READS IS OF BULK AT MOST 1048576: true; the input reads as it did. -/
def planTellsUptoRow : OpenClaim := { program := "ytejffembnkojjaa", sum := "6040e8bf968d20e142799b0d1ff231fabe40fef74b2bd6f4108210228733b83e", func := "radome/radomelaw06.PlanTells", spec := "planTells", unfollowed := true, recurses := true, apart := false, narrowed := true }
def PlanTellsUptoSaid : Prop := planTellsUptoRow.holds Try.pinned (OpenSpec.upto planTellsSpec)

end Rows
end Go.Proofs.Ytejffembnkojjaa
