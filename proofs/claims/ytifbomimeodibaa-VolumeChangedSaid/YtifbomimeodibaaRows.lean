/-
  No cell of these rows narrows 'for every input' (looked for: loops, veiled, ifaces, maps, wideKeys, modest, calm, conditions, laid).
  DERIVED. THE GIVEN ROWS OF THIS SEAT. 4 by the template 'for every input the law returns true; each argument reads behind the call as it read before'; 0 by the template 'total and deterministic' (their statements: YtifbomimeodibaaTotals.lean).
  GIVEN WITH THE SEED: the statements are not yours to turn. If you find one false, say at which input.
  Laid BY PROGRAM, IN A SANDBOX (cutbox-rows.mjs): the forced cells as the released guide's own fill.sh prints them over the translation b2b6174e6949506b… (all of the seat's roots in one cut). By AI agents, Wed Nov 11 2026. No macro, syntax, notation, axiom, sorry.
-/
import Derived.Test.YtifbomimeodibaaChecked
import GoSem.Claim
import GoSem.ClaimJoined
import GoSem.ClaimMapViews
import Derived.JoinedTies
import Derived.KernelRfl
namespace Go.Proofs.Ytifbomimeodibaa
/- THE CELL 'sum', in the pinned program and in every row, IS THE sha256 OF THE DUMP (.gsa) THAT YtifbomimeodibaaProg.lean LOADS. Nothing in Lean hashes anything: it is a label: what it is worth is what the hold of that sum in a sandbox is worth. -/
noncomputable def Try.pinned : Pinned := { name := "ytifbomimeodibaa", sum := "b2b6174e6949506b285813fa4a2dfdf721ed3a4cdeea391046228750f27b3f3d", checked := Try.checked }
namespace Rows
def none {H : Type} : Left H := { results := [], args := [] }

/-- 'radomelaw12.VolumeBack': WHATEVER THE INPUT: true; the input reads as it did. -/
def volumeBackSpec : ChangeSpec := { name := "volumeBack", fn := fun _ => fun
  | [d1, d2] => { results := [.lit (.bool true)], args := [d1, d2] }
  | _ => none }
def volumeBackRow : OpenClaim := { program := "ytifbomimeodibaa", sum := "b2b6174e6949506b285813fa4a2dfdf721ed3a4cdeea391046228750f27b3f3d", func := "radome/radomelaw12.VolumeBack", spec := "volumeBack", inPlace := ["internal/bytealg.IndexByte", "internal/bytealg.IndexByteString", "internal/bytealg.IndexString"], unfollowed := true, recurses := true, named := ["internal/bytealg.MaxLen"], apart := false }
def VolumeBackSaid : Prop := volumeBackRow.holds Try.pinned (OpenSpec.ofChange volumeBackSpec)

/-- ITS FALSE NEIGHBOUR: 'it returns false'. Refute it at one input. -/
def volumeBackWrong : ChangeSpec := { name := "volumeBack", fn := fun _ => fun
  | [d1, d2] => { results := [.lit (.bool false)], args := [d1, d2] }
  | _ => none }
def VolumeBackWrongFalsely : Prop := volumeBackRow.holds Try.pinned (OpenSpec.ofChange volumeBackWrong)

/-- 'radomelaw12.VolumeChanged': WHATEVER THE INPUT: true; the input reads as it did. -/
def volumeChangedSpec : ChangeSpec := { name := "volumeChanged", fn := fun _ => fun
  | [d1, d2, d3] => { results := [.lit (.bool true)], args := [d1, d2, d3] }
  | _ => none }
def volumeChangedRow : OpenClaim := { program := "ytifbomimeodibaa", sum := "b2b6174e6949506b285813fa4a2dfdf721ed3a4cdeea391046228750f27b3f3d", func := "radome/radomelaw12.VolumeChanged", spec := "volumeChanged", inPlace := ["internal/bytealg.IndexByte", "internal/bytealg.IndexByteString", "internal/bytealg.IndexString"], unfollowed := true, recurses := true, named := ["internal/bytealg.MaxLen"], apart := false }
def VolumeChangedSaid : Prop := volumeChangedRow.holds Try.pinned (OpenSpec.ofChange volumeChangedSpec)

/-- ITS FALSE NEIGHBOUR: 'it returns false'. Refute it at one input. -/
def volumeChangedWrong : ChangeSpec := { name := "volumeChanged", fn := fun _ => fun
  | [d1, d2, d3] => { results := [.lit (.bool false)], args := [d1, d2, d3] }
  | _ => none }
def VolumeChangedWrongFalsely : Prop := volumeChangedRow.holds Try.pinned (OpenSpec.ofChange volumeChangedWrong)

/-- 'radomelaw12.VolumeCut': WHATEVER THE INPUT: true; the input reads as it did. -/
def volumeCutSpec : ChangeSpec := { name := "volumeCut", fn := fun _ => fun
  | [d1, d2, d3] => { results := [.lit (.bool true)], args := [d1, d2, d3] }
  | _ => none }
def volumeCutRow : OpenClaim := { program := "ytifbomimeodibaa", sum := "b2b6174e6949506b285813fa4a2dfdf721ed3a4cdeea391046228750f27b3f3d", func := "radome/radomelaw12.VolumeCut", spec := "volumeCut", inPlace := ["internal/bytealg.IndexByte", "internal/bytealg.IndexByteString", "internal/bytealg.IndexString"], unfollowed := true, recurses := true, named := ["internal/bytealg.MaxLen"], apart := false }
def VolumeCutSaid : Prop := volumeCutRow.holds Try.pinned (OpenSpec.ofChange volumeCutSpec)

/-- ITS FALSE NEIGHBOUR: 'it returns false'. Refute it at one input. -/
def volumeCutWrong : ChangeSpec := { name := "volumeCut", fn := fun _ => fun
  | [d1, d2, d3] => { results := [.lit (.bool false)], args := [d1, d2, d3] }
  | _ => none }
def VolumeCutWrongFalsely : Prop := volumeCutRow.holds Try.pinned (OpenSpec.ofChange volumeCutWrong)

/-- 'radomelaw12.VolumeFinds': WHATEVER THE INPUT: true; the input reads as it did. -/
def volumeFindsSpec : ChangeSpec := { name := "volumeFinds", fn := fun _ => fun
  | [d1, d2, d3] => { results := [.lit (.bool true)], args := [d1, d2, d3] }
  | _ => none }
def volumeFindsRow : OpenClaim := { program := "ytifbomimeodibaa", sum := "b2b6174e6949506b285813fa4a2dfdf721ed3a4cdeea391046228750f27b3f3d", func := "radome/radomelaw12.VolumeFinds", spec := "volumeFinds", inPlace := ["internal/bytealg.IndexByte", "internal/bytealg.IndexByteString", "internal/bytealg.IndexString"], unfollowed := true, recurses := true, named := ["internal/bytealg.MaxLen"], apart := false }
def VolumeFindsSaid : Prop := volumeFindsRow.holds Try.pinned (OpenSpec.ofChange volumeFindsSpec)

/-- ITS FALSE NEIGHBOUR: 'it returns false'. Refute it at one input. -/
def volumeFindsWrong : ChangeSpec := { name := "volumeFinds", fn := fun _ => fun
  | [d1, d2, d3] => { results := [.lit (.bool false)], args := [d1, d2, d3] }
  | _ => none }
def VolumeFindsWrongFalsely : Prop := volumeFindsRow.holds Try.pinned (OpenSpec.ofChange volumeFindsWrong)

/- THE SECOND FORM. 'bulk': how many values and letters a reading holds, each counted each time it is reached (what is shared counts as often as it is met; a slice's spare places count too). A statement '..UptoSaid' is the law's where the arguments, and the package variables that the reading takes, are together of bulk at most 1048576: NARROWER than '..Said'. Prove '..Said' where nothing that the law and all that it calls make is longer than what came in: it says more and counts as full. Else prove '..UptoSaid'. A law counts once. -/
mutual
def uptoBulk {H : Type} : DataW H → Nat
  | .lit (.string bytes) => bytes.length + 1
  | .lit _ => 1
  | .nil => 1
  | .ptr d => uptoBulk d + 1
  | .slice elems spare => uptoBulkAll elems + uptoBulkAll spare + 1
  | .agg parts => uptoBulkAll parts + 1
  | .iface _ d => uptoBulk d + 1
  | .map entries => uptoBulkEntries entries + 1
  | .held _ => 1
def uptoBulkAll {H : Type} : List (DataW H) → Nat
  | [] => 0
  | d :: r => uptoBulk d + uptoBulkAll r
def uptoBulkEntries {H : Type} : List (Lit × DataW H) → Nat
  | [] => 0
  | x :: r => uptoBulkEntry x + uptoBulkEntries r
def uptoBulkEntry {H : Type} : Lit × DataW H → Nat
  | (.string bytes, d) => bytes.length + uptoBulk d + 1
  | (_, d) => uptoBulk d + 1
 end
def uptoSmall : (H : Type) → List (DataW H) → Bool := fun _ ds => decide (uptoBulkAll ds ≤ 1048576)
def OpenSpec.upto (s : _root_.Go.ChangeSpec) : _root_.Go.OpenSpec := { _root_.Go.OpenSpec.ofChange s with cond := some uptoSmall }

/-- 'radomelaw12.VolumeBack', WHERE WHAT IT READS IS OF BULK AT MOST 1048576: true; the input reads as it did. -/
def volumeBackUptoRow : OpenClaim := { program := "ytifbomimeodibaa", sum := "b2b6174e6949506b285813fa4a2dfdf721ed3a4cdeea391046228750f27b3f3d", func := "radome/radomelaw12.VolumeBack", spec := "volumeBack", inPlace := ["internal/bytealg.IndexByte", "internal/bytealg.IndexByteString", "internal/bytealg.IndexString"], unfollowed := true, recurses := true, named := ["internal/bytealg.MaxLen"], apart := false, narrowed := true }
def VolumeBackUptoSaid : Prop := volumeBackUptoRow.holds Try.pinned (OpenSpec.upto volumeBackSpec)

/-- 'radomelaw12.VolumeChanged', WHERE WHAT IT READS IS OF BULK AT MOST 1048576: true; the input reads as it did. -/
def volumeChangedUptoRow : OpenClaim := { program := "ytifbomimeodibaa", sum := "b2b6174e6949506b285813fa4a2dfdf721ed3a4cdeea391046228750f27b3f3d", func := "radome/radomelaw12.VolumeChanged", spec := "volumeChanged", inPlace := ["internal/bytealg.IndexByte", "internal/bytealg.IndexByteString", "internal/bytealg.IndexString"], unfollowed := true, recurses := true, named := ["internal/bytealg.MaxLen"], apart := false, narrowed := true }
def VolumeChangedUptoSaid : Prop := volumeChangedUptoRow.holds Try.pinned (OpenSpec.upto volumeChangedSpec)

/-- 'radomelaw12.VolumeCut', WHERE WHAT IT READS IS OF BULK AT MOST 1048576: true; the input reads as it did. -/
def volumeCutUptoRow : OpenClaim := { program := "ytifbomimeodibaa", sum := "b2b6174e6949506b285813fa4a2dfdf721ed3a4cdeea391046228750f27b3f3d", func := "radome/radomelaw12.VolumeCut", spec := "volumeCut", inPlace := ["internal/bytealg.IndexByte", "internal/bytealg.IndexByteString", "internal/bytealg.IndexString"], unfollowed := true, recurses := true, named := ["internal/bytealg.MaxLen"], apart := false, narrowed := true }
def VolumeCutUptoSaid : Prop := volumeCutUptoRow.holds Try.pinned (OpenSpec.upto volumeCutSpec)

/-- 'radomelaw12.VolumeFinds', WHERE WHAT IT READS IS OF BULK AT MOST 1048576: true; the input reads as it did. -/
def volumeFindsUptoRow : OpenClaim := { program := "ytifbomimeodibaa", sum := "b2b6174e6949506b285813fa4a2dfdf721ed3a4cdeea391046228750f27b3f3d", func := "radome/radomelaw12.VolumeFinds", spec := "volumeFinds", inPlace := ["internal/bytealg.IndexByte", "internal/bytealg.IndexByteString", "internal/bytealg.IndexString"], unfollowed := true, recurses := true, named := ["internal/bytealg.MaxLen"], apart := false, narrowed := true }
def VolumeFindsUptoSaid : Prop := volumeFindsUptoRow.holds Try.pinned (OpenSpec.upto volumeFindsSpec)

end Rows
end Go.Proofs.Ytifbomimeodibaa
