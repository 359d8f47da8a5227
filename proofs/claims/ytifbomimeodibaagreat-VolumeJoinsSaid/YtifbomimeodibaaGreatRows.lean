/-
  No cell of these rows narrows 'for every input' (looked for: loops, veiled, ifaces, maps, wideKeys, modest, calm, conditions, laid).
  DERIVED. THE GIVEN ROWS OF THIS SEAT. 5 by the template 'for every input the law returns true; each argument reads behind the call as it read before'; 0 by the template 'total and deterministic' (their statements: YtifbomimeodibaaGreatTotals.lean).
  GIVEN WITH THE SEED: the statements are not yours to turn. If you find one false, say at which input.
  Laid BY PROGRAM, IN A SANDBOX (cutbox-rows.mjs): the forced cells as the released guide's own fill.sh prints them over the translation b4eb357bd0cf807f… (all of the seat's roots in one cut). By AI agents, Wed Nov 11 2026. No macro, syntax, notation, axiom, sorry.
-/
import Derived.Test.YtifbomimeodibaaGreatChecked
import GoSem.Claim
import GoSem.ClaimJoined
import GoSem.ClaimMapViews
import Derived.JoinedTies
import Derived.KernelRfl
namespace Go.Proofs.YtifbomimeodibaaGreat
/- THE CELL 'sum', in the pinned program and in every row, IS THE sha256 OF THE DUMP (.gsa) THAT YtifbomimeodibaaGreatProg.lean LOADS. Nothing in Lean hashes anything: it is a label: what it is worth is what the hold of that sum in a sandbox is worth. -/
noncomputable def Tryz.pinned : Pinned := { name := "ytifbomimeodibaagreat", sum := "b4eb357bd0cf807fcb10c726fca887bc72f2433aa0f9b59d98bec42726623b0e", checked := Tryz.checked }
namespace Rows
def none {H : Type} : Left H := { results := [], args := [] }

/-- 'radomelaw12.VolumeReads': WHATEVER THE INPUT: true; the input reads as it did. -/
def volumeReadsSpec : ChangeSpec := { name := "volumeReads", fn := fun _ => fun
  | [d] => { results := [.lit (.bool true)], args := [d] }
  | _ => none }
def volumeReadsRow : OpenClaim := { program := "ytifbomimeodibaagreat", sum := "b4eb357bd0cf807fcb10c726fca887bc72f2433aa0f9b59d98bec42726623b0e", func := "radome/radomelaw12.VolumeReads", spec := "volumeReads", inPlace := ["internal/bytealg.IndexByte", "internal/bytealg.IndexByteString", "internal/bytealg.IndexString"], unfollowed := true, recurses := true, named := ["internal/bytealg.MaxLen"], apart := false }
def VolumeReadsSaid : Prop := volumeReadsRow.holds Tryz.pinned (OpenSpec.ofChange volumeReadsSpec)

/-- ITS FALSE NEIGHBOUR: 'it returns false'. Refute it at one input. -/
def volumeReadsWrong : ChangeSpec := { name := "volumeReads", fn := fun _ => fun
  | [d] => { results := [.lit (.bool false)], args := [d] }
  | _ => none }
def VolumeReadsWrongFalsely : Prop := volumeReadsRow.holds Tryz.pinned (OpenSpec.ofChange volumeReadsWrong)

/-- 'radomelaw12.VolumeWrites': WHATEVER THE INPUT: true; the input reads as it did. -/
def volumeWritesSpec : ChangeSpec := { name := "volumeWrites", fn := fun _ => fun
  | [d] => { results := [.lit (.bool true)], args := [d] }
  | _ => none }
def volumeWritesRow : OpenClaim := { program := "ytifbomimeodibaagreat", sum := "b4eb357bd0cf807fcb10c726fca887bc72f2433aa0f9b59d98bec42726623b0e", func := "radome/radomelaw12.VolumeWrites", spec := "volumeWrites", inPlace := ["internal/bytealg.IndexByte", "internal/bytealg.IndexByteString", "internal/bytealg.IndexString"], unfollowed := true, recurses := true, named := ["internal/bytealg.MaxLen"], apart := false }
def VolumeWritesSaid : Prop := volumeWritesRow.holds Tryz.pinned (OpenSpec.ofChange volumeWritesSpec)

/-- ITS FALSE NEIGHBOUR: 'it returns false'. Refute it at one input. -/
def volumeWritesWrong : ChangeSpec := { name := "volumeWrites", fn := fun _ => fun
  | [d] => { results := [.lit (.bool false)], args := [d] }
  | _ => none }
def VolumeWritesWrongFalsely : Prop := volumeWritesRow.holds Tryz.pinned (OpenSpec.ofChange volumeWritesWrong)

/-- 'radomelaw12.VolumeAppends': WHATEVER THE INPUT: true; the input reads as it did. -/
def volumeAppendsSpec : ChangeSpec := { name := "volumeAppends", fn := fun _ => fun
  | [d1, d2] => { results := [.lit (.bool true)], args := [d1, d2] }
  | _ => none }
def volumeAppendsRow : OpenClaim := { program := "ytifbomimeodibaagreat", sum := "b4eb357bd0cf807fcb10c726fca887bc72f2433aa0f9b59d98bec42726623b0e", func := "radome/radomelaw12.VolumeAppends", spec := "volumeAppends", inPlace := ["internal/bytealg.IndexByte", "internal/bytealg.IndexByteString", "internal/bytealg.IndexString"], unfollowed := true, recurses := true, named := ["internal/bytealg.MaxLen"], apart := false }
def VolumeAppendsSaid : Prop := volumeAppendsRow.holds Tryz.pinned (OpenSpec.ofChange volumeAppendsSpec)

/-- ITS FALSE NEIGHBOUR: 'it returns false'. Refute it at one input. -/
def volumeAppendsWrong : ChangeSpec := { name := "volumeAppends", fn := fun _ => fun
  | [d1, d2] => { results := [.lit (.bool false)], args := [d1, d2] }
  | _ => none }
def VolumeAppendsWrongFalsely : Prop := volumeAppendsRow.holds Tryz.pinned (OpenSpec.ofChange volumeAppendsWrong)

/-- 'radomelaw12.VolumeJoined': WHATEVER THE INPUT: true; the input reads as it did. -/
def volumeJoinedSpec : ChangeSpec := { name := "volumeJoined", fn := fun _ => fun
  | [d1, d2, d3] => { results := [.lit (.bool true)], args := [d1, d2, d3] }
  | _ => none }
def volumeJoinedRow : OpenClaim := { program := "ytifbomimeodibaagreat", sum := "b4eb357bd0cf807fcb10c726fca887bc72f2433aa0f9b59d98bec42726623b0e", func := "radome/radomelaw12.VolumeJoined", spec := "volumeJoined", inPlace := ["internal/bytealg.IndexByte", "internal/bytealg.IndexByteString", "internal/bytealg.IndexString", "internal/bytealg.Compare"], unfollowed := true, recurses := true, named := ["internal/bytealg.MaxLen"], apart := false }
def VolumeJoinedSaid : Prop := volumeJoinedRow.holds Tryz.pinned (OpenSpec.ofChange volumeJoinedSpec)

/-- ITS FALSE NEIGHBOUR: 'it returns false'. Refute it at one input. -/
def volumeJoinedWrong : ChangeSpec := { name := "volumeJoined", fn := fun _ => fun
  | [d1, d2, d3] => { results := [.lit (.bool false)], args := [d1, d2, d3] }
  | _ => none }
def VolumeJoinedWrongFalsely : Prop := volumeJoinedRow.holds Tryz.pinned (OpenSpec.ofChange volumeJoinedWrong)

/-- 'radomelaw12.VolumeJoins': WHATEVER THE INPUT: true; the input reads as it did. -/
def volumeJoinsSpec : ChangeSpec := { name := "volumeJoins", fn := fun _ => fun
  | [d1, d2, d3] => { results := [.lit (.bool true)], args := [d1, d2, d3] }
  | _ => none }
def volumeJoinsRow : OpenClaim := { program := "ytifbomimeodibaagreat", sum := "b4eb357bd0cf807fcb10c726fca887bc72f2433aa0f9b59d98bec42726623b0e", func := "radome/radomelaw12.VolumeJoins", spec := "volumeJoins", inPlace := ["internal/bytealg.IndexByte", "internal/bytealg.IndexByteString", "internal/bytealg.IndexString", "internal/bytealg.Compare"], unfollowed := true, recurses := true, named := ["internal/bytealg.MaxLen"], apart := false }
def VolumeJoinsSaid : Prop := volumeJoinsRow.holds Tryz.pinned (OpenSpec.ofChange volumeJoinsSpec)

/-- ITS FALSE NEIGHBOUR: 'it returns false'. Refute it at one input. -/
def volumeJoinsWrong : ChangeSpec := { name := "volumeJoins", fn := fun _ => fun
  | [d1, d2, d3] => { results := [.lit (.bool false)], args := [d1, d2, d3] }
  | _ => none }
def VolumeJoinsWrongFalsely : Prop := volumeJoinsRow.holds Tryz.pinned (OpenSpec.ofChange volumeJoinsWrong)

/- THE SECOND FORM. 'bulk': how many values and letters a reading holds, each counted each time it is reached (what is shared counts as often as it is met; a slice's spare places count too). A statement '..UptoSaid' is the law's where the arguments, and the package variables that the reading takes, are together of bulk at most 1048576: NARROWER than '..Said'. Prove '..Said' where nothing that the law and all that it calls make is longer than what came in: it says more and counts as full. Else prove '..UptoSaid'. A law counts once. -/
mutual
def uptoBulk {H : Type} : DataW H → Nat
  | .lit (.string bytes) => bytes.length + 1
  | .lit _ => 1
  | .nil => 1
  | .ptr d => uptoBulk d + 1
  | .slice elems spare => uptoBulkAll elems + uptoBulkAll spare + 1
  | .agg parts => uptoBulkAll parts + 1
  | .iface _ d => uptoBulk d + 1
  | .map entries => uptoBulkEntries entries + 1
  | .held _ => 1
def uptoBulkAll {H : Type} : List (DataW H) → Nat
  | [] => 0
  | d :: r => uptoBulk d + uptoBulkAll r
def uptoBulkEntries {H : Type} : List (Lit × DataW H) → Nat
  | [] => 0
  | x :: r => uptoBulkEntry x + uptoBulkEntries r
def uptoBulkEntry {H : Type} : Lit × DataW H → Nat
  | (.string bytes, d) => bytes.length + uptoBulk d + 1
  | (_, d) => uptoBulk d + 1
 end
def uptoSmall : (H : Type) → List (DataW H) → Bool := fun _ ds => decide (uptoBulkAll ds ≤ 1048576)
def OpenSpec.upto (s : _root_.Go.ChangeSpec) : _root_.Go.OpenSpec := { _root_.Go.OpenSpec.ofChange s with cond := some uptoSmall }

/-- 'radomelaw12.VolumeReads', WHERE WHAT IT READS IS OF BULK AT MOST 1048576: true; the input reads as it did. -/
def volumeReadsUptoRow : OpenClaim := { program := "ytifbomimeodibaagreat", sum := "b4eb357bd0cf807fcb10c726fca887bc72f2433aa0f9b59d98bec42726623b0e", func := "radome/radomelaw12.VolumeReads", spec := "volumeReads", inPlace := ["internal/bytealg.IndexByte", "internal/bytealg.IndexByteString", "internal/bytealg.IndexString"], unfollowed := true, recurses := true, named := ["internal/bytealg.MaxLen"], apart := false, narrowed := true }
def VolumeReadsUptoSaid : Prop := volumeReadsUptoRow.holds Tryz.pinned (OpenSpec.upto volumeReadsSpec)

/-- 'radomelaw12.VolumeWrites', WHERE WHAT IT READS IS OF BULK AT MOST 1048576: true; the input reads as it did. -/
def volumeWritesUptoRow : OpenClaim := { program := "ytifbomimeodibaagreat", sum := "b4eb357bd0cf807fcb10c726fca887bc72f2433aa0f9b59d98bec42726623b0e", func := "radome/radomelaw12.VolumeWrites", spec := "volumeWrites", inPlace := ["internal/bytealg.IndexByte", "internal/bytealg.IndexByteString", "internal/bytealg.IndexString"], unfollowed := true, recurses := true, named := ["internal/bytealg.MaxLen"], apart := false, narrowed := true }
def VolumeWritesUptoSaid : Prop := volumeWritesUptoRow.holds Tryz.pinned (OpenSpec.upto volumeWritesSpec)

/-- 'radomelaw12.VolumeAppends', WHERE WHAT IT READS IS OF BULK AT MOST 1048576: true; the input reads as it did. -/
def volumeAppendsUptoRow : OpenClaim := { program := "ytifbomimeodibaagreat", sum := "b4eb357bd0cf807fcb10c726fca887bc72f2433aa0f9b59d98bec42726623b0e", func := "radome/radomelaw12.VolumeAppends", spec := "volumeAppends", inPlace := ["internal/bytealg.IndexByte", "internal/bytealg.IndexByteString", "internal/bytealg.IndexString"], unfollowed := true, recurses := true, named := ["internal/bytealg.MaxLen"], apart := false, narrowed := true }
def VolumeAppendsUptoSaid : Prop := volumeAppendsUptoRow.holds Tryz.pinned (OpenSpec.upto volumeAppendsSpec)

/-- 'radomelaw12.VolumeJoined', WHERE WHAT IT READS IS OF BULK AT MOST 1048576: true; the input reads as it did. -/
def volumeJoinedUptoRow : OpenClaim := { program := "ytifbomimeodibaagreat", sum := "b4eb357bd0cf807fcb10c726fca887bc72f2433aa0f9b59d98bec42726623b0e", func := "radome/radomelaw12.VolumeJoined", spec := "volumeJoined", inPlace := ["internal/bytealg.IndexByte", "internal/bytealg.IndexByteString", "internal/bytealg.IndexString", "internal/bytealg.Compare"], unfollowed := true, recurses := true, named := ["internal/bytealg.MaxLen"], apart := false, narrowed := true }
def VolumeJoinedUptoSaid : Prop := volumeJoinedUptoRow.holds Tryz.pinned (OpenSpec.upto volumeJoinedSpec)

/-- 'radomelaw12.VolumeJoins', WHERE WHAT IT READS IS OF BULK AT MOST 1048576: true; the input reads as it did. -/
def volumeJoinsUptoRow : OpenClaim := { program := "ytifbomimeodibaagreat", sum := "b4eb357bd0cf807fcb10c726fca887bc72f2433aa0f9b59d98bec42726623b0e", func := "radome/radomelaw12.VolumeJoins", spec := "volumeJoins", inPlace := ["internal/bytealg.IndexByte", "internal/bytealg.IndexByteString", "internal/bytealg.IndexString", "internal/bytealg.Compare"], unfollowed := true, recurses := true, named := ["internal/bytealg.MaxLen"], apart := false, narrowed := true }
def VolumeJoinsUptoSaid : Prop := volumeJoinsUptoRow.holds Tryz.pinned (OpenSpec.upto volumeJoinsSpec)

end Rows
end Go.Proofs.YtifbomimeodibaaGreat
