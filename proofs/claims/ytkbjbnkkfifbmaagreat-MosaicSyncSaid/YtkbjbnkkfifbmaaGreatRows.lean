/-
  No cell of these rows narrows 'for every input' (looked for: loops, veiled, ifaces, maps, wideKeys, modest, calm, conditions, laid).
  DERIVED. THE GIVEN ROWS OF THIS SEAT. 10 by the template 'for every input the law returns true; each argument reads behind the call as it read before'; 0 by the template 'total and deterministic' (their statements: YtkbjbnkkfifbmaaGreatTotals.lean).
  GIVEN WITH THE SEED: the statements are not yours to turn. If you find one false, say at which input.
  Laid BY PROGRAM, IN A SANDBOX (cutbox-rows.mjs): the forced cells as the released guide's own fill.sh prints them over the translation 2c98156f066341c5… (all of the seat's roots in one cut). By AI agents, Wed Nov 11 2026. No macro, syntax, notation, axiom, sorry.
-/
import Derived.Test.YtkbjbnkkfifbmaaGreatChecked
import GoSem.Claim
import GoSem.ClaimJoined
import GoSem.ClaimMapViews
import Derived.JoinedTies
import Derived.KernelRfl
namespace Go.Proofs.YtkbjbnkkfifbmaaGreat
/- THE CELL 'sum', in the pinned program and in every row, IS THE sha256 OF THE DUMP (.gsa) THAT YtkbjbnkkfifbmaaGreatProg.lean LOADS. Nothing in Lean hashes anything: it is a label: what it is worth is what the hold of that sum in a sandbox is worth. -/
noncomputable def Tryz.pinned : Pinned := { name := "ytkbjbnkkfifbmaagreat", sum := "2c98156f066341c5059f8c486058c2355434eba80dbc692427568f488ea3f971", checked := Tryz.checked }
namespace Rows
def none {H : Type} : Left H := { results := [], args := [] }

/-- 'radomelaw11.MosaicShown': WHATEVER THE INPUT: true; the input reads as it did. -/
def mosaicShownSpec : ChangeSpec := { name := "mosaicShown", fn := fun _ => fun
  | [d1, d2, d3] => { results := [.lit (.bool true)], args := [d1, d2, d3] }
  | _ => none }
def mosaicShownRow : OpenClaim := { program := "ytkbjbnkkfifbmaagreat", sum := "2c98156f066341c5059f8c486058c2355434eba80dbc692427568f488ea3f971", func := "radome/radomelaw11.MosaicShown", spec := "mosaicShown", inPlace := ["internal/bytealg.IndexByteString", "internal/bytealg.IndexString", "slices.overlaps[[]radome/api.Span]"], unfollowed := true, recurses := true, named := ["internal/bytealg.MaxLen"], plainKeys := false, apart := false }
def MosaicShownSaid : Prop := mosaicShownRow.holds Tryz.pinned (OpenSpec.ofChange mosaicShownSpec)

/-- ITS FALSE NEIGHBOUR: 'it returns false'. Refute it at one input. -/
def mosaicShownWrong : ChangeSpec := { name := "mosaicShown", fn := fun _ => fun
  | [d1, d2, d3] => { results := [.lit (.bool false)], args := [d1, d2, d3] }
  | _ => none }
def MosaicShownWrongFalsely : Prop := mosaicShownRow.holds Tryz.pinned (OpenSpec.ofChange mosaicShownWrong)

/-- 'radomelaw11.MosaicChecks': WHATEVER THE INPUT: true; the input reads as it did. -/
def mosaicChecksSpec : ChangeSpec := { name := "mosaicChecks", fn := fun _ => fun
  | [d] => { results := [.lit (.bool true)], args := [d] }
  | _ => none }
def mosaicChecksRow : OpenClaim := { program := "ytkbjbnkkfifbmaagreat", sum := "2c98156f066341c5059f8c486058c2355434eba80dbc692427568f488ea3f971", func := "radome/radomelaw11.MosaicChecks", spec := "mosaicChecks", inPlace := ["internal/bytealg.IndexByteString", "internal/bytealg.IndexString", "slices.overlaps[[]radome/api.Span]"], unfollowed := true, recurses := true, named := ["internal/bytealg.MaxLen"], plainKeys := false, apart := false }
def MosaicChecksSaid : Prop := mosaicChecksRow.holds Tryz.pinned (OpenSpec.ofChange mosaicChecksSpec)

/-- ITS FALSE NEIGHBOUR: 'it returns false'. Refute it at one input. -/
def mosaicChecksWrong : ChangeSpec := { name := "mosaicChecks", fn := fun _ => fun
  | [d] => { results := [.lit (.bool false)], args := [d] }
  | _ => none }
def MosaicChecksWrongFalsely : Prop := mosaicChecksRow.holds Tryz.pinned (OpenSpec.ofChange mosaicChecksWrong)

/-- 'radomelaw11.MosaicLate': WHATEVER THE INPUT: true; the input reads as it did. -/
def mosaicLateSpec : ChangeSpec := { name := "mosaicLate", fn := fun _ => fun
  | [d1, d2, d3, d4, d5] => { results := [.lit (.bool true)], args := [d1, d2, d3, d4, d5] }
  | _ => none }
def mosaicLateRow : OpenClaim := { program := "ytkbjbnkkfifbmaagreat", sum := "2c98156f066341c5059f8c486058c2355434eba80dbc692427568f488ea3f971", func := "radome/radomelaw11.MosaicLate", spec := "mosaicLate", inPlace := ["internal/bytealg.IndexByteString", "internal/bytealg.IndexString", "slices.overlaps[[]radome/api.Span]", "maps.clone"], unfollowed := true, recurses := true, named := ["internal/bytealg.MaxLen"], plainKeys := false, apart := false }
def MosaicLateSaid : Prop := mosaicLateRow.holds Tryz.pinned (OpenSpec.ofChange mosaicLateSpec)

/-- ITS FALSE NEIGHBOUR: 'it returns false'. Refute it at one input. -/
def mosaicLateWrong : ChangeSpec := { name := "mosaicLate", fn := fun _ => fun
  | [d1, d2, d3, d4, d5] => { results := [.lit (.bool false)], args := [d1, d2, d3, d4, d5] }
  | _ => none }
def MosaicLateWrongFalsely : Prop := mosaicLateRow.holds Tryz.pinned (OpenSpec.ofChange mosaicLateWrong)

/-- 'radomelaw11.MosaicKnown': WHATEVER THE INPUT: true; the input reads as it did. -/
def mosaicKnownSpec : ChangeSpec := { name := "mosaicKnown", fn := fun _ => fun
  | [] => { results := [.lit (.bool true)], args := [] }
  | _ => none }
def mosaicKnownRow : OpenClaim := { program := "ytkbjbnkkfifbmaagreat", sum := "2c98156f066341c5059f8c486058c2355434eba80dbc692427568f488ea3f971", func := "radome/radomelaw11.MosaicKnown", spec := "mosaicKnown", inPlace := ["internal/bytealg.IndexByteString", "internal/bytealg.IndexString", "slices.overlaps[[]radome/api.Span]"], unfollowed := true, recurses := true, named := ["internal/bytealg.MaxLen"], plainKeys := false, apart := false }
def MosaicKnownSaid : Prop := mosaicKnownRow.holds Tryz.pinned (OpenSpec.ofChange mosaicKnownSpec)

/-- ITS FALSE NEIGHBOUR: 'it returns false'. Refute it at one input. -/
def mosaicKnownWrong : ChangeSpec := { name := "mosaicKnown", fn := fun _ => fun
  | [] => { results := [.lit (.bool false)], args := [] }
  | _ => none }
def MosaicKnownWrongFalsely : Prop := mosaicKnownRow.holds Tryz.pinned (OpenSpec.ofChange mosaicKnownWrong)

/-- 'radomelaw11.MosaicRestores': WHATEVER THE INPUT: true; the input reads as it did. -/
def mosaicRestoresSpec : ChangeSpec := { name := "mosaicRestores", fn := fun _ => fun
  | [d1, d2] => { results := [.lit (.bool true)], args := [d1, d2] }
  | _ => none }
def mosaicRestoresRow : OpenClaim := { program := "ytkbjbnkkfifbmaagreat", sum := "2c98156f066341c5059f8c486058c2355434eba80dbc692427568f488ea3f971", func := "radome/radomelaw11.MosaicRestores", spec := "mosaicRestores", inPlace := ["internal/bytealg.IndexByteString", "internal/bytealg.IndexString", "slices.overlaps[[]radome/api.Span]"], unfollowed := true, recurses := true, named := ["internal/bytealg.MaxLen"], plainKeys := false, apart := false }
def MosaicRestoresSaid : Prop := mosaicRestoresRow.holds Tryz.pinned (OpenSpec.ofChange mosaicRestoresSpec)

/-- ITS FALSE NEIGHBOUR: 'it returns false'. Refute it at one input. -/
def mosaicRestoresWrong : ChangeSpec := { name := "mosaicRestores", fn := fun _ => fun
  | [d1, d2] => { results := [.lit (.bool false)], args := [d1, d2] }
  | _ => none }
def MosaicRestoresWrongFalsely : Prop := mosaicRestoresRow.holds Tryz.pinned (OpenSpec.ofChange mosaicRestoresWrong)

/-- 'radomelaw11.MosaicFull': WHATEVER THE INPUT: true; the input reads as it did. -/
def mosaicFullSpec : ChangeSpec := { name := "mosaicFull", fn := fun _ => fun
  | [d1, d2, d3] => { results := [.lit (.bool true)], args := [d1, d2, d3] }
  | _ => none }
def mosaicFullRow : OpenClaim := { program := "ytkbjbnkkfifbmaagreat", sum := "2c98156f066341c5059f8c486058c2355434eba80dbc692427568f488ea3f971", func := "radome/radomelaw11.MosaicFull", spec := "mosaicFull", inPlace := ["internal/bytealg.IndexByteString", "internal/bytealg.IndexString", "slices.overlaps[[]radome/api.Span]", "maps.clone"], unfollowed := true, recurses := true, named := ["internal/bytealg.MaxLen"], plainKeys := false, apart := false }
def MosaicFullSaid : Prop := mosaicFullRow.holds Tryz.pinned (OpenSpec.ofChange mosaicFullSpec)

/-- ITS FALSE NEIGHBOUR: 'it returns false'. Refute it at one input. -/
def mosaicFullWrong : ChangeSpec := { name := "mosaicFull", fn := fun _ => fun
  | [d1, d2, d3] => { results := [.lit (.bool false)], args := [d1, d2, d3] }
  | _ => none }
def MosaicFullWrongFalsely : Prop := mosaicFullRow.holds Tryz.pinned (OpenSpec.ofChange mosaicFullWrong)

/-- 'radomelaw11.MosaicOne': WHATEVER THE INPUT: true; the input reads as it did. -/
def mosaicOneSpec : ChangeSpec := { name := "mosaicOne", fn := fun _ => fun
  | [d1, d2, d3, d4, d5, d6] => { results := [.lit (.bool true)], args := [d1, d2, d3, d4, d5, d6] }
  | _ => none }
def mosaicOneRow : OpenClaim := { program := "ytkbjbnkkfifbmaagreat", sum := "2c98156f066341c5059f8c486058c2355434eba80dbc692427568f488ea3f971", func := "radome/radomelaw11.MosaicOne", spec := "mosaicOne", inPlace := ["internal/bytealg.IndexByteString", "internal/bytealg.IndexString", "slices.overlaps[[]radome/api.Span]", "maps.clone"], unfollowed := true, recurses := true, named := ["internal/bytealg.MaxLen"], plainKeys := false, apart := false }
def MosaicOneSaid : Prop := mosaicOneRow.holds Tryz.pinned (OpenSpec.ofChange mosaicOneSpec)

/-- ITS FALSE NEIGHBOUR: 'it returns false'. Refute it at one input. -/
def mosaicOneWrong : ChangeSpec := { name := "mosaicOne", fn := fun _ => fun
  | [d1, d2, d3, d4, d5, d6] => { results := [.lit (.bool false)], args := [d1, d2, d3, d4, d5, d6] }
  | _ => none }
def MosaicOneWrongFalsely : Prop := mosaicOneRow.holds Tryz.pinned (OpenSpec.ofChange mosaicOneWrong)

/-- 'radomelaw11.MosaicSync': WHATEVER THE INPUT: true; the input reads as it did. -/
def mosaicSyncSpec : ChangeSpec := { name := "mosaicSync", fn := fun _ => fun
  | [d1, d2, d3, d4, d5, d6] => { results := [.lit (.bool true)], args := [d1, d2, d3, d4, d5, d6] }
  | _ => none }
def mosaicSyncRow : OpenClaim := { program := "ytkbjbnkkfifbmaagreat", sum := "2c98156f066341c5059f8c486058c2355434eba80dbc692427568f488ea3f971", func := "radome/radomelaw11.MosaicSync", spec := "mosaicSync", inPlace := ["internal/bytealg.IndexByteString", "internal/bytealg.IndexString", "slices.overlaps[[]radome/api.Span]"], unfollowed := true, recurses := true, named := ["internal/bytealg.MaxLen"], plainKeys := false, apart := false }
def MosaicSyncSaid : Prop := mosaicSyncRow.holds Tryz.pinned (OpenSpec.ofChange mosaicSyncSpec)

/-- ITS FALSE NEIGHBOUR: 'it returns false'. Refute it at one input. -/
def mosaicSyncWrong : ChangeSpec := { name := "mosaicSync", fn := fun _ => fun
  | [d1, d2, d3, d4, d5, d6] => { results := [.lit (.bool false)], args := [d1, d2, d3, d4, d5, d6] }
  | _ => none }
def MosaicSyncWrongFalsely : Prop := mosaicSyncRow.holds Tryz.pinned (OpenSpec.ofChange mosaicSyncWrong)

/-- 'radomelaw11.MosaicNil': WHATEVER THE INPUT: true; the input reads as it did. -/
def mosaicNilSpec : ChangeSpec := { name := "mosaicNil", fn := fun _ => fun
  | [d1, d2] => { results := [.lit (.bool true)], args := [d1, d2] }
  | _ => none }
def mosaicNilRow : OpenClaim := { program := "ytkbjbnkkfifbmaagreat", sum := "2c98156f066341c5059f8c486058c2355434eba80dbc692427568f488ea3f971", func := "radome/radomelaw11.MosaicNil", spec := "mosaicNil", inPlace := ["internal/bytealg.IndexByteString", "internal/bytealg.IndexString", "slices.overlaps[[]radome/api.Span]", "maps.clone"], unfollowed := true, recurses := true, named := ["internal/bytealg.MaxLen"], plainKeys := false, apart := false }
def MosaicNilSaid : Prop := mosaicNilRow.holds Tryz.pinned (OpenSpec.ofChange mosaicNilSpec)

/-- ITS FALSE NEIGHBOUR: 'it returns false'. Refute it at one input. -/
def mosaicNilWrong : ChangeSpec := { name := "mosaicNil", fn := fun _ => fun
  | [d1, d2] => { results := [.lit (.bool false)], args := [d1, d2] }
  | _ => none }
def MosaicNilWrongFalsely : Prop := mosaicNilRow.holds Tryz.pinned (OpenSpec.ofChange mosaicNilWrong)

/-- 'radomelaw11.MosaicRuns': WHATEVER THE INPUT: true; the input reads as it did. -/
def mosaicRunsSpec : ChangeSpec := { name := "mosaicRuns", fn := fun _ => fun
  | [d1, d2] => { results := [.lit (.bool true)], args := [d1, d2] }
  | _ => none }
def mosaicRunsRow : OpenClaim := { program := "ytkbjbnkkfifbmaagreat", sum := "2c98156f066341c5059f8c486058c2355434eba80dbc692427568f488ea3f971", func := "radome/radomelaw11.MosaicRuns", spec := "mosaicRuns", inPlace := ["internal/bytealg.IndexByteString", "internal/bytealg.IndexString", "slices.overlaps[[]radome/api.Span]", "maps.clone"], unfollowed := true, recurses := true, named := ["internal/bytealg.MaxLen"], plainKeys := false, apart := false }
def MosaicRunsSaid : Prop := mosaicRunsRow.holds Tryz.pinned (OpenSpec.ofChange mosaicRunsSpec)

/-- ITS FALSE NEIGHBOUR: 'it returns false'. Refute it at one input. -/
def mosaicRunsWrong : ChangeSpec := { name := "mosaicRuns", fn := fun _ => fun
  | [d1, d2] => { results := [.lit (.bool false)], args := [d1, d2] }
  | _ => none }
def MosaicRunsWrongFalsely : Prop := mosaicRunsRow.holds Tryz.pinned (OpenSpec.ofChange mosaicRunsWrong)

/- THE SECOND FORM. 'bulk': how many values and letters a reading holds, each counted each time it is reached (what is shared counts as often as it is met; a slice's spare places count too). A statement '..UptoSaid' is the law's where the arguments, and the package variables that the reading takes, are together of bulk at most 1048576: NARROWER than '..Said'. Prove '..Said' where nothing that the law and all that it calls make is longer than what came in: it says more and counts as full. Else prove '..UptoSaid'. A law counts once. -/
mutual
def uptoBulk {H : Type} : DataW H → Nat
  | .lit (.string bytes) => bytes.length + 1
  | .lit _ => 1
  | .nil => 1
  | .ptr d => uptoBulk d + 1
  | .slice elems spare => uptoBulkAll elems + uptoBulkAll spare + 1
  | .agg parts => uptoBulkAll parts + 1
  | .iface _ d => uptoBulk d + 1
  | .map entries => uptoBulkEntries entries + 1
  | .held _ => 1
def uptoBulkAll {H : Type} : List (DataW H) → Nat
  | [] => 0
  | d :: r => uptoBulk d + uptoBulkAll r
def uptoBulkEntries {H : Type} : List (Lit × DataW H) → Nat
  | [] => 0
  | x :: r => uptoBulkEntry x + uptoBulkEntries r
def uptoBulkEntry {H : Type} : Lit × DataW H → Nat
  | (.string bytes, d) => bytes.length + uptoBulk d + 1
  | (_, d) => uptoBulk d + 1
 end
def uptoSmall : (H : Type) → List (DataW H) → Bool := fun _ ds => decide (uptoBulkAll ds ≤ 1048576)
def OpenSpec.upto (s : _root_.Go.ChangeSpec) : _root_.Go.OpenSpec := { _root_.Go.OpenSpec.ofChange s with cond := some uptoSmall }

/-- 'radomelaw11.MosaicShown', WHERE WHAT IT READS IS OF BULK AT MOST 1048576: true; the input reads as it did. -/
def mosaicShownUptoRow : OpenClaim := { program := "ytkbjbnkkfifbmaagreat", sum := "2c98156f066341c5059f8c486058c2355434eba80dbc692427568f488ea3f971", func := "radome/radomelaw11.MosaicShown", spec := "mosaicShown", inPlace := ["internal/bytealg.IndexByteString", "internal/bytealg.IndexString", "slices.overlaps[[]radome/api.Span]"], unfollowed := true, recurses := true, named := ["internal/bytealg.MaxLen"], plainKeys := false, apart := false, narrowed := true }
def MosaicShownUptoSaid : Prop := mosaicShownUptoRow.holds Tryz.pinned (OpenSpec.upto mosaicShownSpec)

/-- 'radomelaw11.MosaicChecks', WHERE WHAT IT READS IS OF BULK AT MOST 1048576: true; the input reads as it did. -/
def mosaicChecksUptoRow : OpenClaim := { program := "ytkbjbnkkfifbmaagreat", sum := "2c98156f066341c5059f8c486058c2355434eba80dbc692427568f488ea3f971", func := "radome/radomelaw11.MosaicChecks", spec := "mosaicChecks", inPlace := ["internal/bytealg.IndexByteString", "internal/bytealg.IndexString", "slices.overlaps[[]radome/api.Span]"], unfollowed := true, recurses := true, named := ["internal/bytealg.MaxLen"], plainKeys := false, apart := false, narrowed := true }
def MosaicChecksUptoSaid : Prop := mosaicChecksUptoRow.holds Tryz.pinned (OpenSpec.upto mosaicChecksSpec)

/-- 'radomelaw11.MosaicLate', WHERE WHAT IT READS IS OF BULK AT MOST 1048576: true; the input reads as it did. -/
def mosaicLateUptoRow : OpenClaim := { program := "ytkbjbnkkfifbmaagreat", sum := "2c98156f066341c5059f8c486058c2355434eba80dbc692427568f488ea3f971", func := "radome/radomelaw11.MosaicLate", spec := "mosaicLate", inPlace := ["internal/bytealg.IndexByteString", "internal/bytealg.IndexString", "slices.overlaps[[]radome/api.Span]", "maps.clone"], unfollowed := true, recurses := true, named := ["internal/bytealg.MaxLen"], plainKeys := false, apart := false, narrowed := true }
def MosaicLateUptoSaid : Prop := mosaicLateUptoRow.holds Tryz.pinned (OpenSpec.upto mosaicLateSpec)

/-- 'radomelaw11.MosaicKnown', WHERE WHAT IT READS IS OF BULK AT MOST 1048576: true; the input reads as it did. -/
def mosaicKnownUptoRow : OpenClaim := { program := "ytkbjbnkkfifbmaagreat", sum := "2c98156f066341c5059f8c486058c2355434eba80dbc692427568f488ea3f971", func := "radome/radomelaw11.MosaicKnown", spec := "mosaicKnown", inPlace := ["internal/bytealg.IndexByteString", "internal/bytealg.IndexString", "slices.overlaps[[]radome/api.Span]"], unfollowed := true, recurses := true, named := ["internal/bytealg.MaxLen"], plainKeys := false, apart := false, narrowed := true }
def MosaicKnownUptoSaid : Prop := mosaicKnownUptoRow.holds Tryz.pinned (OpenSpec.upto mosaicKnownSpec)

/-- 'radomelaw11.MosaicRestores', WHERE WHAT IT READS IS OF BULK AT MOST 1048576: true; the input reads as it did. -/
def mosaicRestoresUptoRow : OpenClaim := { program := "ytkbjbnkkfifbmaagreat", sum := "2c98156f066341c5059f8c486058c2355434eba80dbc692427568f488ea3f971", func := "radome/radomelaw11.MosaicRestores", spec := "mosaicRestores", inPlace := ["internal/bytealg.IndexByteString", "internal/bytealg.IndexString", "slices.overlaps[[]radome/api.Span]"], unfollowed := true, recurses := true, named := ["internal/bytealg.MaxLen"], plainKeys := false, apart := false, narrowed := true }
def MosaicRestoresUptoSaid : Prop := mosaicRestoresUptoRow.holds Tryz.pinned (OpenSpec.upto mosaicRestoresSpec)

/-- 'radomelaw11.MosaicFull', WHERE WHAT IT READS IS OF BULK AT MOST 1048576: true; the input reads as it did. -/
def mosaicFullUptoRow : OpenClaim := { program := "ytkbjbnkkfifbmaagreat", sum := "2c98156f066341c5059f8c486058c2355434eba80dbc692427568f488ea3f971", func := "radome/radomelaw11.MosaicFull", spec := "mosaicFull", inPlace := ["internal/bytealg.IndexByteString", "internal/bytealg.IndexString", "slices.overlaps[[]radome/api.Span]", "maps.clone"], unfollowed := true, recurses := true, named := ["internal/bytealg.MaxLen"], plainKeys := false, apart := false, narrowed := true }
def MosaicFullUptoSaid : Prop := mosaicFullUptoRow.holds Tryz.pinned (OpenSpec.upto mosaicFullSpec)

/-- 'radomelaw11.MosaicOne', WHERE WHAT IT READS IS OF BULK AT MOST 1048576: true; the input reads as it did. -/
def mosaicOneUptoRow : OpenClaim := { program := "ytkbjbnkkfifbmaagreat", sum := "2c98156f066341c5059f8c486058c2355434eba80dbc692427568f488ea3f971", func := "radome/radomelaw11.MosaicOne", spec := "mosaicOne", inPlace := ["internal/bytealg.IndexByteString", "internal/bytealg.IndexString", "slices.overlaps[[]radome/api.Span]", "maps.clone"], unfollowed := true, recurses := true, named := ["internal/bytealg.MaxLen"], plainKeys := false, apart := false, narrowed := true }
def MosaicOneUptoSaid : Prop := mosaicOneUptoRow.holds Tryz.pinned (OpenSpec.upto mosaicOneSpec)

/-- 'radomelaw11.MosaicSync', WHERE WHAT IT READS IS OF BULK AT MOST 1048576: true; the input reads as it did. -/
def mosaicSyncUptoRow : OpenClaim := { program := "ytkbjbnkkfifbmaagreat", sum := "2c98156f066341c5059f8c486058c2355434eba80dbc692427568f488ea3f971", func := "radome/radomelaw11.MosaicSync", spec := "mosaicSync", inPlace := ["internal/bytealg.IndexByteString", "internal/bytealg.IndexString", "slices.overlaps[[]radome/api.Span]"], unfollowed := true, recurses := true, named := ["internal/bytealg.MaxLen"], plainKeys := false, apart := false, narrowed := true }
def MosaicSyncUptoSaid : Prop := mosaicSyncUptoRow.holds Tryz.pinned (OpenSpec.upto mosaicSyncSpec)

/-- 'radomelaw11.MosaicNil', WHERE WHAT IT READS IS OF BULK AT MOST 1048576: true; the input reads as it did. -/
def mosaicNilUptoRow : OpenClaim := { program := "ytkbjbnkkfifbmaagreat", sum := "2c98156f066341c5059f8c486058c2355434eba80dbc692427568f488ea3f971", func := "radome/radomelaw11.MosaicNil", spec := "mosaicNil", inPlace := ["internal/bytealg.IndexByteString", "internal/bytealg.IndexString", "slices.overlaps[[]radome/api.Span]", "maps.clone"], unfollowed := true, recurses := true, named := ["internal/bytealg.MaxLen"], plainKeys := false, apart := false, narrowed := true }
def MosaicNilUptoSaid : Prop := mosaicNilUptoRow.holds Tryz.pinned (OpenSpec.upto mosaicNilSpec)

/-- 'radomelaw11.MosaicRuns', WHERE WHAT IT READS IS OF BULK AT MOST 1048576: true; the input reads as it did. -/
def mosaicRunsUptoRow : OpenClaim := { program := "ytkbjbnkkfifbmaagreat", sum := "2c98156f066341c5059f8c486058c2355434eba80dbc692427568f488ea3f971", func := "radome/radomelaw11.MosaicRuns", spec := "mosaicRuns", inPlace := ["internal/bytealg.IndexByteString", "internal/bytealg.IndexString", "slices.overlaps[[]radome/api.Span]", "maps.clone"], unfollowed := true, recurses := true, named := ["internal/bytealg.MaxLen"], plainKeys := false, apart := false, narrowed := true }
def MosaicRunsUptoSaid : Prop := mosaicRunsUptoRow.holds Tryz.pinned (OpenSpec.upto mosaicRunsSpec)

end Rows
end Go.Proofs.YtkbjbnkkfifbmaaGreat
