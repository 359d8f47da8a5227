/-
  No cell of these rows narrows 'for every input' (looked for: loops, veiled, ifaces, maps, wideKeys, modest, calm, conditions, laid).
  DERIVED. THE GIVEN ROWS OF THIS SEAT. 11 by the template 'for every input the law returns true; each argument reads behind the call as it read before'; 0 by the template 'total and deterministic' (their statements: YtbhjgebjojdohaaTotals.lean).
  GIVEN WITH THE SEED: the statements are not yours to turn. If you find one false, say at which input.
  Laid BY PROGRAM, IN A SANDBOX (cutbox-rows.mjs): the forced cells as the released guide's own fill.sh prints them over the translation 175e224d146d188e… (all of the seat's roots in one cut). By AI agents, Wed Nov 11 2026. No macro, syntax, notation, axiom, sorry.
-/
import Derived.Test.YtbhjgebjojdohaaChecked
import GoSem.Claim
import GoSem.ClaimJoined
import GoSem.ClaimMapViews
import Derived.JoinedTies
import Derived.KernelRfl
namespace Go.Proofs.Ytbhjgebjojdohaa
/- THE CELL 'sum', in the pinned program and in every row, IS THE sha256 OF THE DUMP (.gsa) THAT YtbhjgebjojdohaaProg.lean LOADS. Nothing in Lean hashes anything: it is a label: what it is worth is what the hold of that sum in a sandbox is worth. -/
noncomputable def Try.pinned : Pinned := { name := "ytbhjgebjojdohaa", sum := "175e224d146d188e5698c7adad567f90d2eccd64ed6f63a76a2589bd621d2c81", checked := Try.checked }
namespace Rows
def none {H : Type} : Left H := { results := [], args := [] }

/-- 'radomelaw03.FoldGuesses': WHATEVER THE INPUT: true; the input reads as it did. -/
def foldGuessesSpec : ChangeSpec := { name := "foldGuesses", fn := fun _ => fun
  | [d1, d2, d3, d4, d5] => { results := [.lit (.bool true)], args := [d1, d2, d3, d4, d5] }
  | _ => none }
def foldGuessesRow : OpenClaim := { program := "ytbhjgebjojdohaa", sum := "175e224d146d188e5698c7adad567f90d2eccd64ed6f63a76a2589bd621d2c81", func := "radome/radomelaw03.FoldGuesses", spec := "foldGuesses", unfollowed := true, recurses := true, plainKeys := false, apart := false }
def FoldGuessesSaid : Prop := foldGuessesRow.holds Try.pinned (OpenSpec.ofChange foldGuessesSpec)

/-- ITS FALSE NEIGHBOUR: 'it returns false'. Refute it at one input. -/
def foldGuessesWrong : ChangeSpec := { name := "foldGuesses", fn := fun _ => fun
  | [d1, d2, d3, d4, d5] => { results := [.lit (.bool false)], args := [d1, d2, d3, d4, d5] }
  | _ => none }
def FoldGuessesWrongFalsely : Prop := foldGuessesRow.holds Try.pinned (OpenSpec.ofChange foldGuessesWrong)

/-- 'radomelaw03.FoldUnions': WHATEVER THE INPUT: true; the input reads as it did. -/
def foldUnionsSpec : ChangeSpec := { name := "foldUnions", fn := fun _ => fun
  | [d] => { results := [.lit (.bool true)], args := [d] }
  | _ => none }
def foldUnionsRow : OpenClaim := { program := "ytbhjgebjojdohaa", sum := "175e224d146d188e5698c7adad567f90d2eccd64ed6f63a76a2589bd621d2c81", func := "radome/radomelaw03.FoldUnions", spec := "foldUnions", unfollowed := true, recurses := true, plainKeys := false, apart := false }
def FoldUnionsSaid : Prop := foldUnionsRow.holds Try.pinned (OpenSpec.ofChange foldUnionsSpec)

/-- ITS FALSE NEIGHBOUR: 'it returns false'. Refute it at one input. -/
def foldUnionsWrong : ChangeSpec := { name := "foldUnions", fn := fun _ => fun
  | [d] => { results := [.lit (.bool false)], args := [d] }
  | _ => none }
def FoldUnionsWrongFalsely : Prop := foldUnionsRow.holds Try.pinned (OpenSpec.ofChange foldUnionsWrong)

/-- 'radomelaw03.FoldRays': WHATEVER THE INPUT: true; the input reads as it did. -/
def foldRaysSpec : ChangeSpec := { name := "foldRays", fn := fun _ => fun
  | [d1, d2, d3] => { results := [.lit (.bool true)], args := [d1, d2, d3] }
  | _ => none }
def foldRaysRow : OpenClaim := { program := "ytbhjgebjojdohaa", sum := "175e224d146d188e5698c7adad567f90d2eccd64ed6f63a76a2589bd621d2c81", func := "radome/radomelaw03.FoldRays", spec := "foldRays", unfollowed := true, recurses := true, plainKeys := false, apart := false }
def FoldRaysSaid : Prop := foldRaysRow.holds Try.pinned (OpenSpec.ofChange foldRaysSpec)

/-- ITS FALSE NEIGHBOUR: 'it returns false'. Refute it at one input. -/
def foldRaysWrong : ChangeSpec := { name := "foldRays", fn := fun _ => fun
  | [d1, d2, d3] => { results := [.lit (.bool false)], args := [d1, d2, d3] }
  | _ => none }
def FoldRaysWrongFalsely : Prop := foldRaysRow.holds Try.pinned (OpenSpec.ofChange foldRaysWrong)

/-- 'radomelaw03.FoldTurns': WHATEVER THE INPUT: true; the input reads as it did. -/
def foldTurnsSpec : ChangeSpec := { name := "foldTurns", fn := fun _ => fun
  | [d1, d2, d3] => { results := [.lit (.bool true)], args := [d1, d2, d3] }
  | _ => none }
def foldTurnsRow : OpenClaim := { program := "ytbhjgebjojdohaa", sum := "175e224d146d188e5698c7adad567f90d2eccd64ed6f63a76a2589bd621d2c81", func := "radome/radomelaw03.FoldTurns", spec := "foldTurns", unfollowed := true, recurses := true, plainKeys := false, apart := false }
def FoldTurnsSaid : Prop := foldTurnsRow.holds Try.pinned (OpenSpec.ofChange foldTurnsSpec)

/-- ITS FALSE NEIGHBOUR: 'it returns false'. Refute it at one input. -/
def foldTurnsWrong : ChangeSpec := { name := "foldTurns", fn := fun _ => fun
  | [d1, d2, d3] => { results := [.lit (.bool false)], args := [d1, d2, d3] }
  | _ => none }
def FoldTurnsWrongFalsely : Prop := foldTurnsRow.holds Try.pinned (OpenSpec.ofChange foldTurnsWrong)

/-- 'radomelaw03.FoldTrips': WHATEVER THE INPUT: true; the input reads as it did. -/
def foldTripsSpec : ChangeSpec := { name := "foldTrips", fn := fun _ => fun
  | [d1, d2, d3, d4, d5] => { results := [.lit (.bool true)], args := [d1, d2, d3, d4, d5] }
  | _ => none }
def foldTripsRow : OpenClaim := { program := "ytbhjgebjojdohaa", sum := "175e224d146d188e5698c7adad567f90d2eccd64ed6f63a76a2589bd621d2c81", func := "radome/radomelaw03.FoldTrips", spec := "foldTrips", unfollowed := true, recurses := true, plainKeys := false, apart := false }
def FoldTripsSaid : Prop := foldTripsRow.holds Try.pinned (OpenSpec.ofChange foldTripsSpec)

/-- ITS FALSE NEIGHBOUR: 'it returns false'. Refute it at one input. -/
def foldTripsWrong : ChangeSpec := { name := "foldTrips", fn := fun _ => fun
  | [d1, d2, d3, d4, d5] => { results := [.lit (.bool false)], args := [d1, d2, d3, d4, d5] }
  | _ => none }
def FoldTripsWrongFalsely : Prop := foldTripsRow.holds Try.pinned (OpenSpec.ofChange foldTripsWrong)

/-- 'radomelaw03.FoldTimes': WHATEVER THE INPUT: true; the input reads as it did. -/
def foldTimesSpec : ChangeSpec := { name := "foldTimes", fn := fun _ => fun
  | [d1, d2, d3] => { results := [.lit (.bool true)], args := [d1, d2, d3] }
  | _ => none }
def foldTimesRow : OpenClaim := { program := "ytbhjgebjojdohaa", sum := "175e224d146d188e5698c7adad567f90d2eccd64ed6f63a76a2589bd621d2c81", func := "radome/radomelaw03.FoldTimes", spec := "foldTimes", unfollowed := true, recurses := true, plainKeys := false, apart := false }
def FoldTimesSaid : Prop := foldTimesRow.holds Try.pinned (OpenSpec.ofChange foldTimesSpec)

/-- ITS FALSE NEIGHBOUR: 'it returns false'. Refute it at one input. -/
def foldTimesWrong : ChangeSpec := { name := "foldTimes", fn := fun _ => fun
  | [d1, d2, d3] => { results := [.lit (.bool false)], args := [d1, d2, d3] }
  | _ => none }
def FoldTimesWrongFalsely : Prop := foldTimesRow.holds Try.pinned (OpenSpec.ofChange foldTimesWrong)

/-- 'radomelaw03.FoldCourses': WHATEVER THE INPUT: true; the input reads as it did. -/
def foldCoursesSpec : ChangeSpec := { name := "foldCourses", fn := fun _ => fun
  | [d1, d2, d3] => { results := [.lit (.bool true)], args := [d1, d2, d3] }
  | _ => none }
def foldCoursesRow : OpenClaim := { program := "ytbhjgebjojdohaa", sum := "175e224d146d188e5698c7adad567f90d2eccd64ed6f63a76a2589bd621d2c81", func := "radome/radomelaw03.FoldCourses", spec := "foldCourses", unfollowed := true, recurses := true, plainKeys := false, apart := false }
def FoldCoursesSaid : Prop := foldCoursesRow.holds Try.pinned (OpenSpec.ofChange foldCoursesSpec)

/-- ITS FALSE NEIGHBOUR: 'it returns false'. Refute it at one input. -/
def foldCoursesWrong : ChangeSpec := { name := "foldCourses", fn := fun _ => fun
  | [d1, d2, d3] => { results := [.lit (.bool false)], args := [d1, d2, d3] }
  | _ => none }
def FoldCoursesWrongFalsely : Prop := foldCoursesRow.holds Try.pinned (OpenSpec.ofChange foldCoursesWrong)

/-- 'radomelaw03.FoldStable': WHATEVER THE INPUT: true; the input reads as it did. -/
def foldStableSpec : ChangeSpec := { name := "foldStable", fn := fun _ => fun
  | [d1, d2, d3, d4, d5] => { results := [.lit (.bool true)], args := [d1, d2, d3, d4, d5] }
  | _ => none }
def foldStableRow : OpenClaim := { program := "ytbhjgebjojdohaa", sum := "175e224d146d188e5698c7adad567f90d2eccd64ed6f63a76a2589bd621d2c81", func := "radome/radomelaw03.FoldStable", spec := "foldStable", unfollowed := true, recurses := true, plainKeys := false, apart := false }
def FoldStableSaid : Prop := foldStableRow.holds Try.pinned (OpenSpec.ofChange foldStableSpec)

/-- ITS FALSE NEIGHBOUR: 'it returns false'. Refute it at one input. -/
def foldStableWrong : ChangeSpec := { name := "foldStable", fn := fun _ => fun
  | [d1, d2, d3, d4, d5] => { results := [.lit (.bool false)], args := [d1, d2, d3, d4, d5] }
  | _ => none }
def FoldStableWrongFalsely : Prop := foldStableRow.holds Try.pinned (OpenSpec.ofChange foldStableWrong)

/-- 'radomelaw03.FoldFewer': WHATEVER THE INPUT: true; the input reads as it did. -/
def foldFewerSpec : ChangeSpec := { name := "foldFewer", fn := fun _ => fun
  | [d1, d2, d3, d4, d5] => { results := [.lit (.bool true)], args := [d1, d2, d3, d4, d5] }
  | _ => none }
def foldFewerRow : OpenClaim := { program := "ytbhjgebjojdohaa", sum := "175e224d146d188e5698c7adad567f90d2eccd64ed6f63a76a2589bd621d2c81", func := "radome/radomelaw03.FoldFewer", spec := "foldFewer", unfollowed := true, recurses := true, plainKeys := false, apart := false }
def FoldFewerSaid : Prop := foldFewerRow.holds Try.pinned (OpenSpec.ofChange foldFewerSpec)

/-- ITS FALSE NEIGHBOUR: 'it returns false'. Refute it at one input. -/
def foldFewerWrong : ChangeSpec := { name := "foldFewer", fn := fun _ => fun
  | [d1, d2, d3, d4, d5] => { results := [.lit (.bool false)], args := [d1, d2, d3, d4, d5] }
  | _ => none }
def FoldFewerWrongFalsely : Prop := foldFewerRow.holds Try.pinned (OpenSpec.ofChange foldFewerWrong)

/-- 'radomelaw03.FoldGhosts': WHATEVER THE INPUT: true; the input reads as it did. -/
def foldGhostsSpec : ChangeSpec := { name := "foldGhosts", fn := fun _ => fun
  | [d1, d2, d3, d4] => { results := [.lit (.bool true)], args := [d1, d2, d3, d4] }
  | _ => none }
def foldGhostsRow : OpenClaim := { program := "ytbhjgebjojdohaa", sum := "175e224d146d188e5698c7adad567f90d2eccd64ed6f63a76a2589bd621d2c81", func := "radome/radomelaw03.FoldGhosts", spec := "foldGhosts", unfollowed := true, recurses := true, plainKeys := false, apart := false }
def FoldGhostsSaid : Prop := foldGhostsRow.holds Try.pinned (OpenSpec.ofChange foldGhostsSpec)

/-- ITS FALSE NEIGHBOUR: 'it returns false'. Refute it at one input. -/
def foldGhostsWrong : ChangeSpec := { name := "foldGhosts", fn := fun _ => fun
  | [d1, d2, d3, d4] => { results := [.lit (.bool false)], args := [d1, d2, d3, d4] }
  | _ => none }
def FoldGhostsWrongFalsely : Prop := foldGhostsRow.holds Try.pinned (OpenSpec.ofChange foldGhostsWrong)

/-- 'radomelaw03.FoldTruth': WHATEVER THE INPUT: true; the input reads as it did. -/
def foldTruthSpec : ChangeSpec := { name := "foldTruth", fn := fun _ => fun
  | [d1, d2] => { results := [.lit (.bool true)], args := [d1, d2] }
  | _ => none }
def foldTruthRow : OpenClaim := { program := "ytbhjgebjojdohaa", sum := "175e224d146d188e5698c7adad567f90d2eccd64ed6f63a76a2589bd621d2c81", func := "radome/radomelaw03.FoldTruth", spec := "foldTruth", inPlace := ["internal/bytealg.IndexByteString", "internal/bytealg.IndexString"], unfollowed := true, recurses := true, named := ["internal/bytealg.MaxLen"], plainKeys := false, apart := false }
def FoldTruthSaid : Prop := foldTruthRow.holds Try.pinned (OpenSpec.ofChange foldTruthSpec)

/-- ITS FALSE NEIGHBOUR: 'it returns false'. Refute it at one input. -/
def foldTruthWrong : ChangeSpec := { name := "foldTruth", fn := fun _ => fun
  | [d1, d2] => { results := [.lit (.bool false)], args := [d1, d2] }
  | _ => none }
def FoldTruthWrongFalsely : Prop := foldTruthRow.holds Try.pinned (OpenSpec.ofChange foldTruthWrong)

/- THE SECOND FORM. 'bulk': how many values and letters a reading holds, each counted each time it is reached (what is shared counts as often as it is met; a slice's spare places count too). A statement '..UptoSaid' is the law's where the arguments, and the package variables that the reading takes, are together of bulk at most 1048576: NARROWER than '..Said'. Prove '..Said' where nothing that the law and all that it calls make is longer than what came in: it says more and counts as full. Else prove '..UptoSaid'. A law counts once. -/
mutual
def uptoBulk {H : Type} : DataW H → Nat
  | .lit (.string bytes) => bytes.length + 1
  | .lit _ => 1
  | .nil => 1
  | .ptr d => uptoBulk d + 1
  | .slice elems spare => uptoBulkAll elems + uptoBulkAll spare + 1
  | .agg parts => uptoBulkAll parts + 1
  | .iface _ d => uptoBulk d + 1
  | .map entries => uptoBulkEntries entries + 1
  | .held _ => 1
def uptoBulkAll {H : Type} : List (DataW H) → Nat
  | [] => 0
  | d :: r => uptoBulk d + uptoBulkAll r
def uptoBulkEntries {H : Type} : List (Lit × DataW H) → Nat
  | [] => 0
  | x :: r => uptoBulkEntry x + uptoBulkEntries r
def uptoBulkEntry {H : Type} : Lit × DataW H → Nat
  | (.string bytes, d) => bytes.length + uptoBulk d + 1
  | (_, d) => uptoBulk d + 1
 end
def uptoSmall : (H : Type) → List (DataW H) → Bool := fun _ ds => decide (uptoBulkAll ds ≤ 1048576)
def OpenSpec.upto (s : _root_.Go.ChangeSpec) : _root_.Go.OpenSpec := { _root_.Go.OpenSpec.ofChange s with cond := some uptoSmall }

/-- 'radomelaw03.FoldGuesses', WHERE WHAT IT READS IS OF BULK AT MOST 1048576: true; the input reads as it did. -/
def foldGuessesUptoRow : OpenClaim := { program := "ytbhjgebjojdohaa", sum := "175e224d146d188e5698c7adad567f90d2eccd64ed6f63a76a2589bd621d2c81", func := "radome/radomelaw03.FoldGuesses", spec := "foldGuesses", unfollowed := true, recurses := true, plainKeys := false, apart := false, narrowed := true }
def FoldGuessesUptoSaid : Prop := foldGuessesUptoRow.holds Try.pinned (OpenSpec.upto foldGuessesSpec)

/-- 'radomelaw03.FoldUnions', WHERE WHAT IT READS IS OF BULK AT MOST 1048576: true; the input reads as it did. -/
def foldUnionsUptoRow : OpenClaim := { program := "ytbhjgebjojdohaa", sum := "175e224d146d188e5698c7adad567f90d2eccd64ed6f63a76a2589bd621d2c81", func := "radome/radomelaw03.FoldUnions", spec := "foldUnions", unfollowed := true, recurses := true, plainKeys := false, apart := false, narrowed := true }
def FoldUnionsUptoSaid : Prop := foldUnionsUptoRow.holds Try.pinned (OpenSpec.upto foldUnionsSpec)

/-- 'radomelaw03.FoldRays', WHERE WHAT IT READS IS OF BULK AT MOST 1048576: true; the input reads as it did. -/
def foldRaysUptoRow : OpenClaim := { program := "ytbhjgebjojdohaa", sum := "175e224d146d188e5698c7adad567f90d2eccd64ed6f63a76a2589bd621d2c81", func := "radome/radomelaw03.FoldRays", spec := "foldRays", unfollowed := true, recurses := true, plainKeys := false, apart := false, narrowed := true }
def FoldRaysUptoSaid : Prop := foldRaysUptoRow.holds Try.pinned (OpenSpec.upto foldRaysSpec)

/-- 'radomelaw03.FoldTurns', WHERE WHAT IT READS IS OF BULK AT MOST 1048576: true; the input reads as it did. -/
def foldTurnsUptoRow : OpenClaim := { program := "ytbhjgebjojdohaa", sum := "175e224d146d188e5698c7adad567f90d2eccd64ed6f63a76a2589bd621d2c81", func := "radome/radomelaw03.FoldTurns", spec := "foldTurns", unfollowed := true, recurses := true, plainKeys := false, apart := false, narrowed := true }
def FoldTurnsUptoSaid : Prop := foldTurnsUptoRow.holds Try.pinned (OpenSpec.upto foldTurnsSpec)

/-- 'radomelaw03.FoldTrips', WHERE WHAT IT READS IS OF BULK AT MOST 1048576: true; the input reads as it did. -/
def foldTripsUptoRow : OpenClaim := { program := "ytbhjgebjojdohaa", sum := "175e224d146d188e5698c7adad567f90d2eccd64ed6f63a76a2589bd621d2c81", func := "radome/radomelaw03.FoldTrips", spec := "foldTrips", unfollowed := true, recurses := true, plainKeys := false, apart := false, narrowed := true }
def FoldTripsUptoSaid : Prop := foldTripsUptoRow.holds Try.pinned (OpenSpec.upto foldTripsSpec)

/-- 'radomelaw03.FoldTimes', WHERE WHAT IT READS IS OF BULK AT MOST 1048576: true; the input reads as it did. -/
def foldTimesUptoRow : OpenClaim := { program := "ytbhjgebjojdohaa", sum := "175e224d146d188e5698c7adad567f90d2eccd64ed6f63a76a2589bd621d2c81", func := "radome/radomelaw03.FoldTimes", spec := "foldTimes", unfollowed := true, recurses := true, plainKeys := false, apart := false, narrowed := true }
def FoldTimesUptoSaid : Prop := foldTimesUptoRow.holds Try.pinned (OpenSpec.upto foldTimesSpec)

/-- 'radomelaw03.FoldCourses', WHERE WHAT IT READS IS OF BULK AT MOST 1048576: true; the input reads as it did. -/
def foldCoursesUptoRow : OpenClaim := { program := "ytbhjgebjojdohaa", sum := "175e224d146d188e5698c7adad567f90d2eccd64ed6f63a76a2589bd621d2c81", func := "radome/radomelaw03.FoldCourses", spec := "foldCourses", unfollowed := true, recurses := true, plainKeys := false, apart := false, narrowed := true }
def FoldCoursesUptoSaid : Prop := foldCoursesUptoRow.holds Try.pinned (OpenSpec.upto foldCoursesSpec)

/-- 'radomelaw03.FoldStable', WHERE WHAT IT READS IS OF BULK AT MOST 1048576: true; the input reads as it did. -/
def foldStableUptoRow : OpenClaim := { program := "ytbhjgebjojdohaa", sum := "175e224d146d188e5698c7adad567f90d2eccd64ed6f63a76a2589bd621d2c81", func := "radome/radomelaw03.FoldStable", spec := "foldStable", unfollowed := true, recurses := true, plainKeys := false, apart := false, narrowed := true }
def FoldStableUptoSaid : Prop := foldStableUptoRow.holds Try.pinned (OpenSpec.upto foldStableSpec)

/-- 'radomelaw03.FoldFewer', WHERE WHAT IT READS IS OF BULK AT MOST 1048576: true; the input reads as it did. -/
def foldFewerUptoRow : OpenClaim := { program := "ytbhjgebjojdohaa", sum := "175e224d146d188e5698c7adad567f90d2eccd64ed6f63a76a2589bd621d2c81", func := "radome/radomelaw03.FoldFewer", spec := "foldFewer", unfollowed := true, recurses := true, plainKeys := false, apart := false, narrowed := true }
def FoldFewerUptoSaid : Prop := foldFewerUptoRow.holds Try.pinned (OpenSpec.upto foldFewerSpec)

/-- 'radomelaw03.FoldGhosts', WHERE WHAT IT READS IS OF BULK AT MOST 1048576: true; the input reads as it did. -/
def foldGhostsUptoRow : OpenClaim := { program := "ytbhjgebjojdohaa", sum := "175e224d146d188e5698c7adad567f90d2eccd64ed6f63a76a2589bd621d2c81", func := "radome/radomelaw03.FoldGhosts", spec := "foldGhosts", unfollowed := true, recurses := true, plainKeys := false, apart := false, narrowed := true }
def FoldGhostsUptoSaid : Prop := foldGhostsUptoRow.holds Try.pinned (OpenSpec.upto foldGhostsSpec)

/-- 'radomelaw03.FoldTruth', WHERE WHAT IT READS IS OF BULK AT MOST 1048576: true; the input reads as it did. -/
def foldTruthUptoRow : OpenClaim := { program := "ytbhjgebjojdohaa", sum := "175e224d146d188e5698c7adad567f90d2eccd64ed6f63a76a2589bd621d2c81", func := "radome/radomelaw03.FoldTruth", spec := "foldTruth", inPlace := ["internal/bytealg.IndexByteString", "internal/bytealg.IndexString"], unfollowed := true, recurses := true, named := ["internal/bytealg.MaxLen"], plainKeys := false, apart := false, narrowed := true }
def FoldTruthUptoSaid : Prop := foldTruthUptoRow.holds Try.pinned (OpenSpec.upto foldTruthSpec)

end Rows
end Go.Proofs.Ytbhjgebjojdohaa
