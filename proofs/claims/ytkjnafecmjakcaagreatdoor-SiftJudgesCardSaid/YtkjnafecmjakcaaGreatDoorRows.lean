/-
  NARROWER THAN 'FOR EVERY INPUT', by the rows' own cells (each row's printed sentence says how): SiftRules: loops, laid · SiftTruth: laid · SiftTexts: laid · SiftPlain: laid · SiftNear: laid · SiftTests: loops, laid · SiftValues: laid · SiftJudges: loops, laid · SiftReasons: laid.
  DERIVED. THE GIVEN ROWS OF THIS SEAT. 9 by the template 'for every input the law returns true; each argument reads behind the call as it read before'; 0 by the template 'total and deterministic' (their statements: YtkjnafecmjakcaaGreatDoorTotals.lean).
  GIVEN WITH THE SEED: the statements are not yours to turn. If you find one false, say at which input.
  Laid BY PROGRAM, IN A SANDBOX (cutbox-rows.mjs): the forced cells as the released guide's own fill.sh prints them over the translation 399ca90d06a966c6… (all of the seat's roots in one cut). By AI agents, Wed Nov 11 2026. No macro, syntax, notation, axiom, sorry.
-/
import Derived.Test.YtkjnafecmjakcaaGreatDoorChecked
import GoSem.Claim
import GoSem.ClaimJoined
import GoSem.ClaimMapViews
import Derived.JoinedTies
import Derived.KernelRfl
namespace Go.Proofs.YtkjnafecmjakcaaGreatDoor
/- THE CELL 'sum', in the pinned program and in every row, IS THE sha256 OF THE DUMP (.gsa) THAT YtkjnafecmjakcaaGreatDoorProg.lean LOADS. Nothing in Lean hashes anything: it is a label: what it is worth is what the hold of that sum in a sandbox is worth. -/
noncomputable def Tryz.pinned : Pinned := { name := "ytkjnafecmjakcaagreatdoor", sum := "399ca90d06a966c61047a5ee7b9290e9a1e078e18a1057ddd6237b365aae5969", checked := Tryz.checked }
namespace Rows
def none {H : Type} : Left H := { results := [], args := [] }

/- WHAT THE LISTED PACKAGE-LEVEL VARIABLES READ AS WHEN THE CALL BEGINS. Each datum BY PROGRAM (the guide's laid-datum.mjs) off the statement by which the dump's own 'gosem.cut.vars' lays the variable. In a bare row this is a premise. The card (YtkjnafecmjakcaaGreatDoorCards.lean) ties it to the program's text. -/
def laid_math_bits_deBruijn32tab {H : Type} : DataW H := .agg [.lit (.int .u8 0), .lit (.int .u8 1), .lit (.int .u8 28), .lit (.int .u8 2), .lit (.int .u8 29), .lit (.int .u8 14), .lit (.int .u8 24), .lit (.int .u8 3), .lit (.int .u8 30), .lit (.int .u8 22), .lit (.int .u8 20), .lit (.int .u8 15), .lit (.int .u8 25), .lit (.int .u8 17), .lit (.int .u8 4), .lit (.int .u8 8), .lit (.int .u8 31), .lit (.int .u8 27), .lit (.int .u8 13), .lit (.int .u8 23), .lit (.int .u8 21), .lit (.int .u8 19), .lit (.int .u8 16), .lit (.int .u8 7), .lit (.int .u8 26), .lit (.int .u8 12), .lit (.int .u8 18), .lit (.int .u8 6), .lit (.int .u8 11), .lit (.int .u8 5), .lit (.int .u8 10), .lit (.int .u8 9)]
def laid_math_bits_deBruijn64tab {H : Type} : DataW H := .agg [.lit (.int .u8 0), .lit (.int .u8 1), .lit (.int .u8 56), .lit (.int .u8 2), .lit (.int .u8 57), .lit (.int .u8 49), .lit (.int .u8 28), .lit (.int .u8 3), .lit (.int .u8 61), .lit (.int .u8 58), .lit (.int .u8 42), .lit (.int .u8 50), .lit (.int .u8 38), .lit (.int .u8 29), .lit (.int .u8 17), .lit (.int .u8 4), .lit (.int .u8 62), .lit (.int .u8 47), .lit (.int .u8 59), .lit (.int .u8 36), .lit (.int .u8 45), .lit (.int .u8 43), .lit (.int .u8 51), .lit (.int .u8 22), .lit (.int .u8 53), .lit (.int .u8 39), .lit (.int .u8 33), .lit (.int .u8 30), .lit (.int .u8 24), .lit (.int .u8 18), .lit (.int .u8 12), .lit (.int .u8 5), .lit (.int .u8 63), .lit (.int .u8 55), .lit (.int .u8 48), .lit (.int .u8 27), .lit (.int .u8 60), .lit (.int .u8 41), .lit (.int .u8 37), .lit (.int .u8 16), .lit (.int .u8 46), .lit (.int .u8 35), .lit (.int .u8 44), .lit (.int .u8 21), .lit (.int .u8 52), .lit (.int .u8 32), .lit (.int .u8 23), .lit (.int .u8 11), .lit (.int .u8 54), .lit (.int .u8 26), .lit (.int .u8 40), .lit (.int .u8 15), .lit (.int .u8 34), .lit (.int .u8 20), .lit (.int .u8 31), .lit (.int .u8 10), .lit (.int .u8 25), .lit (.int .u8 14), .lit (.int .u8 19), .lit (.int .u8 9), .lit (.int .u8 13), .lit (.int .u8 8), .lit (.int .u8 7), .lit (.int .u8 6)]
def laid_internal_strconv_uint64pow10 {H : Type} : DataW H := .agg [.lit (.int .u64 1), .lit (.int .u64 10), .lit (.int .u64 100), .lit (.int .u64 1000), .lit (.int .u64 10000), .lit (.int .u64 100000), .lit (.int .u64 1000000), .lit (.int .u64 10000000), .lit (.int .u64 100000000), .lit (.int .u64 1000000000), .lit (.int .u64 10000000000), .lit (.int .u64 100000000000), .lit (.int .u64 1000000000000), .lit (.int .u64 10000000000000), .lit (.int .u64 100000000000000), .lit (.int .u64 1000000000000000), .lit (.int .u64 10000000000000000), .lit (.int .u64 100000000000000000), .lit (.int .u64 1000000000000000000), .lit (.int .u64 10000000000000000000)]

/-- 'radomelaw04.SiftRules': WHATEVER THE INPUT: true; the input reads as it did. -/
def siftRulesSpec : ChangeSpec := { name := "siftRules", fn := fun _ => fun
  | [d] => { results := [.lit (.bool true)], args := [d] }
  | _ => none }
def siftRulesRow : OpenClaim := { program := "ytkjnafecmjakcaagreatdoor", sum := "399ca90d06a966c61047a5ee7b9290e9a1e078e18a1057ddd6237b365aae5969", func := "radome/radomelaw04.SiftRules", spec := "siftRules", inPlace := ["internal/bytealg.IndexByteString", "internal/bytealg.IndexString", "internal/abi.NoEscape"], unfollowed := true, recurses := true, named := ["internal/bytealg.MaxLen", "internal/strconv.uint64pow10", "math/bits.deBruijn32tab", "math/bits.deBruijn64tab"], loops := true, apart := false, laid := [("math/bits.deBruijn32tab", laid_math_bits_deBruijn32tab), ("math/bits.deBruijn64tab", laid_math_bits_deBruijn64tab), ("internal/strconv.uint64pow10", laid_internal_strconv_uint64pow10)] }
def SiftRulesSaid : Prop := siftRulesRow.holds Tryz.pinned (OpenSpec.ofChange siftRulesSpec)

/-- ITS FALSE NEIGHBOUR: 'it returns false'. Refute it at one input. -/
def siftRulesWrong : ChangeSpec := { name := "siftRules", fn := fun _ => fun
  | [d] => { results := [.lit (.bool false)], args := [d] }
  | _ => none }
def SiftRulesWrongFalsely : Prop := siftRulesRow.holds Tryz.pinned (OpenSpec.ofChange siftRulesWrong)

/-- 'radomelaw04.SiftTruth': WHATEVER THE INPUT: true; the input reads as it did. -/
def siftTruthSpec : ChangeSpec := { name := "siftTruth", fn := fun _ => fun
  | [d1, d2, d3, d4] => { results := [.lit (.bool true)], args := [d1, d2, d3, d4] }
  | _ => none }
def siftTruthRow : OpenClaim := { program := "ytkjnafecmjakcaagreatdoor", sum := "399ca90d06a966c61047a5ee7b9290e9a1e078e18a1057ddd6237b365aae5969", func := "radome/radomelaw04.SiftTruth", spec := "siftTruth", inPlace := ["internal/bytealg.IndexByteString", "internal/bytealg.IndexString", "internal/abi.NoEscape"], unfollowed := true, recurses := true, named := ["internal/strconv.uint64pow10", "math/bits.deBruijn32tab", "math/bits.deBruijn64tab", "internal/bytealg.MaxLen"], apart := false, laid := [("math/bits.deBruijn32tab", laid_math_bits_deBruijn32tab), ("math/bits.deBruijn64tab", laid_math_bits_deBruijn64tab), ("internal/strconv.uint64pow10", laid_internal_strconv_uint64pow10)] }
def SiftTruthSaid : Prop := siftTruthRow.holds Tryz.pinned (OpenSpec.ofChange siftTruthSpec)

/-- ITS FALSE NEIGHBOUR: 'it returns false'. Refute it at one input. -/
def siftTruthWrong : ChangeSpec := { name := "siftTruth", fn := fun _ => fun
  | [d1, d2, d3, d4] => { results := [.lit (.bool false)], args := [d1, d2, d3, d4] }
  | _ => none }
def SiftTruthWrongFalsely : Prop := siftTruthRow.holds Tryz.pinned (OpenSpec.ofChange siftTruthWrong)

/-- 'radomelaw04.SiftTexts': WHATEVER THE INPUT: true; the input reads as it did. -/
def siftTextsSpec : ChangeSpec := { name := "siftTexts", fn := fun _ => fun
  | [d1, d2, d3, d4, d5] => { results := [.lit (.bool true)], args := [d1, d2, d3, d4, d5] }
  | _ => none }
def siftTextsRow : OpenClaim := { program := "ytkjnafecmjakcaagreatdoor", sum := "399ca90d06a966c61047a5ee7b9290e9a1e078e18a1057ddd6237b365aae5969", func := "radome/radomelaw04.SiftTexts", spec := "siftTexts", inPlace := ["internal/bytealg.IndexByteString", "internal/bytealg.IndexString", "internal/abi.NoEscape"], unfollowed := true, recurses := true, named := ["internal/strconv.uint64pow10", "math/bits.deBruijn32tab", "math/bits.deBruijn64tab", "internal/bytealg.MaxLen"], apart := false, laid := [("math/bits.deBruijn32tab", laid_math_bits_deBruijn32tab), ("math/bits.deBruijn64tab", laid_math_bits_deBruijn64tab), ("internal/strconv.uint64pow10", laid_internal_strconv_uint64pow10)] }
def SiftTextsSaid : Prop := siftTextsRow.holds Tryz.pinned (OpenSpec.ofChange siftTextsSpec)

/-- ITS FALSE NEIGHBOUR: 'it returns false'. Refute it at one input. -/
def siftTextsWrong : ChangeSpec := { name := "siftTexts", fn := fun _ => fun
  | [d1, d2, d3, d4, d5] => { results := [.lit (.bool false)], args := [d1, d2, d3, d4, d5] }
  | _ => none }
def SiftTextsWrongFalsely : Prop := siftTextsRow.holds Tryz.pinned (OpenSpec.ofChange siftTextsWrong)

/-- 'radomelaw04.SiftPlain': WHATEVER THE INPUT: true; the input reads as it did. -/
def siftPlainSpec : ChangeSpec := { name := "siftPlain", fn := fun _ => fun
  | [d1, d2, d3] => { results := [.lit (.bool true)], args := [d1, d2, d3] }
  | _ => none }
def siftPlainRow : OpenClaim := { program := "ytkjnafecmjakcaagreatdoor", sum := "399ca90d06a966c61047a5ee7b9290e9a1e078e18a1057ddd6237b365aae5969", func := "radome/radomelaw04.SiftPlain", spec := "siftPlain", inPlace := ["internal/bytealg.IndexByteString", "internal/bytealg.IndexString", "internal/abi.NoEscape"], unfollowed := true, recurses := true, named := ["internal/bytealg.MaxLen", "internal/strconv.uint64pow10", "math/bits.deBruijn32tab", "math/bits.deBruijn64tab"], apart := false, laid := [("math/bits.deBruijn32tab", laid_math_bits_deBruijn32tab), ("math/bits.deBruijn64tab", laid_math_bits_deBruijn64tab), ("internal/strconv.uint64pow10", laid_internal_strconv_uint64pow10)] }
def SiftPlainSaid : Prop := siftPlainRow.holds Tryz.pinned (OpenSpec.ofChange siftPlainSpec)

/-- ITS FALSE NEIGHBOUR: 'it returns false'. Refute it at one input. -/
def siftPlainWrong : ChangeSpec := { name := "siftPlain", fn := fun _ => fun
  | [d1, d2, d3] => { results := [.lit (.bool false)], args := [d1, d2, d3] }
  | _ => none }
def SiftPlainWrongFalsely : Prop := siftPlainRow.holds Tryz.pinned (OpenSpec.ofChange siftPlainWrong)

/-- 'radomelaw04.SiftNear': WHATEVER THE INPUT: true; the input reads as it did. -/
def siftNearSpec : ChangeSpec := { name := "siftNear", fn := fun _ => fun
  | [d1, d2, d3, d4, d5, d6, d7] => { results := [.lit (.bool true)], args := [d1, d2, d3, d4, d5, d6, d7] }
  | _ => none }
def siftNearRow : OpenClaim := { program := "ytkjnafecmjakcaagreatdoor", sum := "399ca90d06a966c61047a5ee7b9290e9a1e078e18a1057ddd6237b365aae5969", func := "radome/radomelaw04.SiftNear", spec := "siftNear", inPlace := ["internal/bytealg.IndexByteString", "internal/bytealg.IndexString", "internal/abi.NoEscape"], unfollowed := true, recurses := true, named := ["internal/strconv.uint64pow10", "math/bits.deBruijn32tab", "math/bits.deBruijn64tab", "internal/bytealg.MaxLen"], apart := false, laid := [("math/bits.deBruijn32tab", laid_math_bits_deBruijn32tab), ("math/bits.deBruijn64tab", laid_math_bits_deBruijn64tab), ("internal/strconv.uint64pow10", laid_internal_strconv_uint64pow10)] }
def SiftNearSaid : Prop := siftNearRow.holds Tryz.pinned (OpenSpec.ofChange siftNearSpec)

/-- ITS FALSE NEIGHBOUR: 'it returns false'. Refute it at one input. -/
def siftNearWrong : ChangeSpec := { name := "siftNear", fn := fun _ => fun
  | [d1, d2, d3, d4, d5, d6, d7] => { results := [.lit (.bool false)], args := [d1, d2, d3, d4, d5, d6, d7] }
  | _ => none }
def SiftNearWrongFalsely : Prop := siftNearRow.holds Tryz.pinned (OpenSpec.ofChange siftNearWrong)

/-- 'radomelaw04.SiftTests': WHATEVER THE INPUT: true; the input reads as it did. -/
def siftTestsSpec : ChangeSpec := { name := "siftTests", fn := fun _ => fun
  | [d1, d2, d3, d4] => { results := [.lit (.bool true)], args := [d1, d2, d3, d4] }
  | _ => none }
def siftTestsRow : OpenClaim := { program := "ytkjnafecmjakcaagreatdoor", sum := "399ca90d06a966c61047a5ee7b9290e9a1e078e18a1057ddd6237b365aae5969", func := "radome/radomelaw04.SiftTests", spec := "siftTests", inPlace := ["internal/bytealg.IndexByteString", "internal/bytealg.IndexString", "internal/abi.NoEscape"], unfollowed := true, recurses := true, named := ["internal/bytealg.MaxLen", "internal/strconv.uint64pow10", "math/bits.deBruijn32tab", "math/bits.deBruijn64tab"], loops := true, apart := false, laid := [("math/bits.deBruijn32tab", laid_math_bits_deBruijn32tab), ("math/bits.deBruijn64tab", laid_math_bits_deBruijn64tab), ("internal/strconv.uint64pow10", laid_internal_strconv_uint64pow10)] }
def SiftTestsSaid : Prop := siftTestsRow.holds Tryz.pinned (OpenSpec.ofChange siftTestsSpec)

/-- ITS FALSE NEIGHBOUR: 'it returns false'. Refute it at one input. -/
def siftTestsWrong : ChangeSpec := { name := "siftTests", fn := fun _ => fun
  | [d1, d2, d3, d4] => { results := [.lit (.bool false)], args := [d1, d2, d3, d4] }
  | _ => none }
def SiftTestsWrongFalsely : Prop := siftTestsRow.holds Tryz.pinned (OpenSpec.ofChange siftTestsWrong)

/-- 'radomelaw04.SiftValues': WHATEVER THE INPUT: true; the input reads as it did. -/
def siftValuesSpec : ChangeSpec := { name := "siftValues", fn := fun _ => fun
  | [d1, d2, d3, d4, d5] => { results := [.lit (.bool true)], args := [d1, d2, d3, d4, d5] }
  | _ => none }
def siftValuesRow : OpenClaim := { program := "ytkjnafecmjakcaagreatdoor", sum := "399ca90d06a966c61047a5ee7b9290e9a1e078e18a1057ddd6237b365aae5969", func := "radome/radomelaw04.SiftValues", spec := "siftValues", inPlace := ["internal/bytealg.IndexByteString", "internal/bytealg.IndexString", "internal/abi.NoEscape"], unfollowed := true, recurses := true, named := ["internal/strconv.uint64pow10", "math/bits.deBruijn32tab", "math/bits.deBruijn64tab", "internal/bytealg.MaxLen"], apart := false, laid := [("math/bits.deBruijn32tab", laid_math_bits_deBruijn32tab), ("math/bits.deBruijn64tab", laid_math_bits_deBruijn64tab), ("internal/strconv.uint64pow10", laid_internal_strconv_uint64pow10)] }
def SiftValuesSaid : Prop := siftValuesRow.holds Tryz.pinned (OpenSpec.ofChange siftValuesSpec)

/-- ITS FALSE NEIGHBOUR: 'it returns false'. Refute it at one input. -/
def siftValuesWrong : ChangeSpec := { name := "siftValues", fn := fun _ => fun
  | [d1, d2, d3, d4, d5] => { results := [.lit (.bool false)], args := [d1, d2, d3, d4, d5] }
  | _ => none }
def SiftValuesWrongFalsely : Prop := siftValuesRow.holds Tryz.pinned (OpenSpec.ofChange siftValuesWrong)

/-- 'radomelaw04.SiftJudges': WHATEVER THE INPUT: true; the input reads as it did. -/
def siftJudgesSpec : ChangeSpec := { name := "siftJudges", fn := fun _ => fun
  | [d1, d2] => { results := [.lit (.bool true)], args := [d1, d2] }
  | _ => none }
def siftJudgesRow : OpenClaim := { program := "ytkjnafecmjakcaagreatdoor", sum := "399ca90d06a966c61047a5ee7b9290e9a1e078e18a1057ddd6237b365aae5969", func := "radome/radomelaw04.SiftJudges", spec := "siftJudges", inPlace := ["internal/bytealg.IndexByteString", "internal/bytealg.IndexString", "internal/abi.NoEscape"], unfollowed := true, recurses := true, named := ["internal/bytealg.MaxLen", "internal/strconv.uint64pow10", "math/bits.deBruijn32tab", "math/bits.deBruijn64tab"], loops := true, apart := false, laid := [("math/bits.deBruijn32tab", laid_math_bits_deBruijn32tab), ("math/bits.deBruijn64tab", laid_math_bits_deBruijn64tab), ("internal/strconv.uint64pow10", laid_internal_strconv_uint64pow10)] }
def SiftJudgesSaid : Prop := siftJudgesRow.holds Tryz.pinned (OpenSpec.ofChange siftJudgesSpec)

/-- ITS FALSE NEIGHBOUR: 'it returns false'. Refute it at one input. -/
def siftJudgesWrong : ChangeSpec := { name := "siftJudges", fn := fun _ => fun
  | [d1, d2] => { results := [.lit (.bool false)], args := [d1, d2] }
  | _ => none }
def SiftJudgesWrongFalsely : Prop := siftJudgesRow.holds Tryz.pinned (OpenSpec.ofChange siftJudgesWrong)

/-- 'radomelaw04.SiftReasons': WHATEVER THE INPUT: true; the input reads as it did. -/
def siftReasonsSpec : ChangeSpec := { name := "siftReasons", fn := fun _ => fun
  | [d1, d2, d3] => { results := [.lit (.bool true)], args := [d1, d2, d3] }
  | _ => none }
def siftReasonsRow : OpenClaim := { program := "ytkjnafecmjakcaagreatdoor", sum := "399ca90d06a966c61047a5ee7b9290e9a1e078e18a1057ddd6237b365aae5969", func := "radome/radomelaw04.SiftReasons", spec := "siftReasons", inPlace := ["internal/bytealg.IndexByteString", "internal/bytealg.IndexString", "internal/abi.NoEscape"], unfollowed := true, recurses := true, named := ["internal/strconv.uint64pow10", "math/bits.deBruijn32tab", "math/bits.deBruijn64tab", "internal/bytealg.MaxLen"], apart := false, laid := [("math/bits.deBruijn32tab", laid_math_bits_deBruijn32tab), ("math/bits.deBruijn64tab", laid_math_bits_deBruijn64tab), ("internal/strconv.uint64pow10", laid_internal_strconv_uint64pow10)] }
def SiftReasonsSaid : Prop := siftReasonsRow.holds Tryz.pinned (OpenSpec.ofChange siftReasonsSpec)

/-- ITS FALSE NEIGHBOUR: 'it returns false'. Refute it at one input. -/
def siftReasonsWrong : ChangeSpec := { name := "siftReasons", fn := fun _ => fun
  | [d1, d2, d3] => { results := [.lit (.bool false)], args := [d1, d2, d3] }
  | _ => none }
def SiftReasonsWrongFalsely : Prop := siftReasonsRow.holds Tryz.pinned (OpenSpec.ofChange siftReasonsWrong)

/- THE SECOND FORM. 'bulk': how many values and letters a reading holds, each counted each time it is reached (what is shared counts as often as it is met; a slice's spare places count too). A statement '..UptoSaid' is the law's where the arguments, and the package variables that the reading takes, are together of bulk at most 1048576: NARROWER than '..Said'. Prove '..Said' where nothing that the law and all that it calls make is longer than what came in: it says more and counts as full. Else prove '..UptoSaid'. A law counts once. -/
mutual
def uptoBulk {H : Type} : DataW H → Nat
  | .lit (.string bytes) => bytes.length + 1
  | .lit _ => 1
  | .nil => 1
  | .ptr d => uptoBulk d + 1
  | .slice elems spare => uptoBulkAll elems + uptoBulkAll spare + 1
  | .agg parts => uptoBulkAll parts + 1
  | .iface _ d => uptoBulk d + 1
  | .map entries => uptoBulkEntries entries + 1
  | .held _ => 1
def uptoBulkAll {H : Type} : List (DataW H) → Nat
  | [] => 0
  | d :: r => uptoBulk d + uptoBulkAll r
def uptoBulkEntries {H : Type} : List (Lit × DataW H) → Nat
  | [] => 0
  | x :: r => uptoBulkEntry x + uptoBulkEntries r
def uptoBulkEntry {H : Type} : Lit × DataW H → Nat
  | (.string bytes, d) => bytes.length + uptoBulk d + 1
  | (_, d) => uptoBulk d + 1
 end
def uptoSmall : (H : Type) → List (DataW H) → Bool := fun _ ds => decide (uptoBulkAll ds ≤ 1048576)
def OpenSpec.upto (s : _root_.Go.ChangeSpec) : _root_.Go.OpenSpec := { _root_.Go.OpenSpec.ofChange s with cond := some uptoSmall }

/-- 'radomelaw04.SiftRules', WHERE WHAT IT READS IS OF BULK AT MOST 1048576: true; the input reads as it did. -/
def siftRulesUptoRow : OpenClaim := { program := "ytkjnafecmjakcaagreatdoor", sum := "399ca90d06a966c61047a5ee7b9290e9a1e078e18a1057ddd6237b365aae5969", func := "radome/radomelaw04.SiftRules", spec := "siftRules", inPlace := ["internal/bytealg.IndexByteString", "internal/bytealg.IndexString", "internal/abi.NoEscape"], unfollowed := true, recurses := true, named := ["internal/bytealg.MaxLen", "internal/strconv.uint64pow10", "math/bits.deBruijn32tab", "math/bits.deBruijn64tab"], loops := true, apart := false, laid := [("math/bits.deBruijn32tab", laid_math_bits_deBruijn32tab), ("math/bits.deBruijn64tab", laid_math_bits_deBruijn64tab), ("internal/strconv.uint64pow10", laid_internal_strconv_uint64pow10)], narrowed := true }
def SiftRulesUptoSaid : Prop := siftRulesUptoRow.holds Tryz.pinned (OpenSpec.upto siftRulesSpec)

/-- 'radomelaw04.SiftTruth', WHERE WHAT IT READS IS OF BULK AT MOST 1048576: true; the input reads as it did. -/
def siftTruthUptoRow : OpenClaim := { program := "ytkjnafecmjakcaagreatdoor", sum := "399ca90d06a966c61047a5ee7b9290e9a1e078e18a1057ddd6237b365aae5969", func := "radome/radomelaw04.SiftTruth", spec := "siftTruth", inPlace := ["internal/bytealg.IndexByteString", "internal/bytealg.IndexString", "internal/abi.NoEscape"], unfollowed := true, recurses := true, named := ["internal/strconv.uint64pow10", "math/bits.deBruijn32tab", "math/bits.deBruijn64tab", "internal/bytealg.MaxLen"], apart := false, laid := [("math/bits.deBruijn32tab", laid_math_bits_deBruijn32tab), ("math/bits.deBruijn64tab", laid_math_bits_deBruijn64tab), ("internal/strconv.uint64pow10", laid_internal_strconv_uint64pow10)], narrowed := true }
def SiftTruthUptoSaid : Prop := siftTruthUptoRow.holds Tryz.pinned (OpenSpec.upto siftTruthSpec)

/-- 'radomelaw04.SiftTexts', WHERE WHAT IT READS IS OF BULK AT MOST 1048576: true; the input reads as it did. -/
def siftTextsUptoRow : OpenClaim := { program := "ytkjnafecmjakcaagreatdoor", sum := "399ca90d06a966c61047a5ee7b9290e9a1e078e18a1057ddd6237b365aae5969", func := "radome/radomelaw04.SiftTexts", spec := "siftTexts", inPlace := ["internal/bytealg.IndexByteString", "internal/bytealg.IndexString", "internal/abi.NoEscape"], unfollowed := true, recurses := true, named := ["internal/strconv.uint64pow10", "math/bits.deBruijn32tab", "math/bits.deBruijn64tab", "internal/bytealg.MaxLen"], apart := false, laid := [("math/bits.deBruijn32tab", laid_math_bits_deBruijn32tab), ("math/bits.deBruijn64tab", laid_math_bits_deBruijn64tab), ("internal/strconv.uint64pow10", laid_internal_strconv_uint64pow10)], narrowed := true }
def SiftTextsUptoSaid : Prop := siftTextsUptoRow.holds Tryz.pinned (OpenSpec.upto siftTextsSpec)

/-- 'radomelaw04.SiftPlain', WHERE WHAT IT READS IS OF BULK AT MOST 1048576: true; the input reads as it did. -/
def siftPlainUptoRow : OpenClaim := { program := "ytkjnafecmjakcaagreatdoor", sum := "399ca90d06a966c61047a5ee7b9290e9a1e078e18a1057ddd6237b365aae5969", func := "radome/radomelaw04.SiftPlain", spec := "siftPlain", inPlace := ["internal/bytealg.IndexByteString", "internal/bytealg.IndexString", "internal/abi.NoEscape"], unfollowed := true, recurses := true, named := ["internal/bytealg.MaxLen", "internal/strconv.uint64pow10", "math/bits.deBruijn32tab", "math/bits.deBruijn64tab"], apart := false, laid := [("math/bits.deBruijn32tab", laid_math_bits_deBruijn32tab), ("math/bits.deBruijn64tab", laid_math_bits_deBruijn64tab), ("internal/strconv.uint64pow10", laid_internal_strconv_uint64pow10)], narrowed := true }
def SiftPlainUptoSaid : Prop := siftPlainUptoRow.holds Tryz.pinned (OpenSpec.upto siftPlainSpec)

/-- 'radomelaw04.SiftNear', WHERE WHAT IT READS IS OF BULK AT MOST 1048576: true; the input reads as it did. -/
def siftNearUptoRow : OpenClaim := { program := "ytkjnafecmjakcaagreatdoor", sum := "399ca90d06a966c61047a5ee7b9290e9a1e078e18a1057ddd6237b365aae5969", func := "radome/radomelaw04.SiftNear", spec := "siftNear", inPlace := ["internal/bytealg.IndexByteString", "internal/bytealg.IndexString", "internal/abi.NoEscape"], unfollowed := true, recurses := true, named := ["internal/strconv.uint64pow10", "math/bits.deBruijn32tab", "math/bits.deBruijn64tab", "internal/bytealg.MaxLen"], apart := false, laid := [("math/bits.deBruijn32tab", laid_math_bits_deBruijn32tab), ("math/bits.deBruijn64tab", laid_math_bits_deBruijn64tab), ("internal/strconv.uint64pow10", laid_internal_strconv_uint64pow10)], narrowed := true }
def SiftNearUptoSaid : Prop := siftNearUptoRow.holds Tryz.pinned (OpenSpec.upto siftNearSpec)

/-- 'radomelaw04.SiftTests', WHERE WHAT IT READS IS OF BULK AT MOST 1048576: true; the input reads as it did. -/
def siftTestsUptoRow : OpenClaim := { program := "ytkjnafecmjakcaagreatdoor", sum := "399ca90d06a966c61047a5ee7b9290e9a1e078e18a1057ddd6237b365aae5969", func := "radome/radomelaw04.SiftTests", spec := "siftTests", inPlace := ["internal/bytealg.IndexByteString", "internal/bytealg.IndexString", "internal/abi.NoEscape"], unfollowed := true, recurses := true, named := ["internal/bytealg.MaxLen", "internal/strconv.uint64pow10", "math/bits.deBruijn32tab", "math/bits.deBruijn64tab"], loops := true, apart := false, laid := [("math/bits.deBruijn32tab", laid_math_bits_deBruijn32tab), ("math/bits.deBruijn64tab", laid_math_bits_deBruijn64tab), ("internal/strconv.uint64pow10", laid_internal_strconv_uint64pow10)], narrowed := true }
def SiftTestsUptoSaid : Prop := siftTestsUptoRow.holds Tryz.pinned (OpenSpec.upto siftTestsSpec)

/-- 'radomelaw04.SiftValues', WHERE WHAT IT READS IS OF BULK AT MOST 1048576: true; the input reads as it did. -/
def siftValuesUptoRow : OpenClaim := { program := "ytkjnafecmjakcaagreatdoor", sum := "399ca90d06a966c61047a5ee7b9290e9a1e078e18a1057ddd6237b365aae5969", func := "radome/radomelaw04.SiftValues", spec := "siftValues", inPlace := ["internal/bytealg.IndexByteString", "internal/bytealg.IndexString", "internal/abi.NoEscape"], unfollowed := true, recurses := true, named := ["internal/strconv.uint64pow10", "math/bits.deBruijn32tab", "math/bits.deBruijn64tab", "internal/bytealg.MaxLen"], apart := false, laid := [("math/bits.deBruijn32tab", laid_math_bits_deBruijn32tab), ("math/bits.deBruijn64tab", laid_math_bits_deBruijn64tab), ("internal/strconv.uint64pow10", laid_internal_strconv_uint64pow10)], narrowed := true }
def SiftValuesUptoSaid : Prop := siftValuesUptoRow.holds Tryz.pinned (OpenSpec.upto siftValuesSpec)

/-- 'radomelaw04.SiftJudges', WHERE WHAT IT READS IS OF BULK AT MOST 1048576: true; the input reads as it did. -/
def siftJudgesUptoRow : OpenClaim := { program := "ytkjnafecmjakcaagreatdoor", sum := "399ca90d06a966c61047a5ee7b9290e9a1e078e18a1057ddd6237b365aae5969", func := "radome/radomelaw04.SiftJudges", spec := "siftJudges", inPlace := ["internal/bytealg.IndexByteString", "internal/bytealg.IndexString", "internal/abi.NoEscape"], unfollowed := true, recurses := true, named := ["internal/bytealg.MaxLen", "internal/strconv.uint64pow10", "math/bits.deBruijn32tab", "math/bits.deBruijn64tab"], loops := true, apart := false, laid := [("math/bits.deBruijn32tab", laid_math_bits_deBruijn32tab), ("math/bits.deBruijn64tab", laid_math_bits_deBruijn64tab), ("internal/strconv.uint64pow10", laid_internal_strconv_uint64pow10)], narrowed := true }
def SiftJudgesUptoSaid : Prop := siftJudgesUptoRow.holds Tryz.pinned (OpenSpec.upto siftJudgesSpec)

/-- 'radomelaw04.SiftReasons', WHERE WHAT IT READS IS OF BULK AT MOST 1048576: true; the input reads as it did. -/
def siftReasonsUptoRow : OpenClaim := { program := "ytkjnafecmjakcaagreatdoor", sum := "399ca90d06a966c61047a5ee7b9290e9a1e078e18a1057ddd6237b365aae5969", func := "radome/radomelaw04.SiftReasons", spec := "siftReasons", inPlace := ["internal/bytealg.IndexByteString", "internal/bytealg.IndexString", "internal/abi.NoEscape"], unfollowed := true, recurses := true, named := ["internal/strconv.uint64pow10", "math/bits.deBruijn32tab", "math/bits.deBruijn64tab", "internal/bytealg.MaxLen"], apart := false, laid := [("math/bits.deBruijn32tab", laid_math_bits_deBruijn32tab), ("math/bits.deBruijn64tab", laid_math_bits_deBruijn64tab), ("internal/strconv.uint64pow10", laid_internal_strconv_uint64pow10)], narrowed := true }
def SiftReasonsUptoSaid : Prop := siftReasonsUptoRow.holds Tryz.pinned (OpenSpec.upto siftReasonsSpec)

end Rows
end Go.Proofs.YtkjnafecmjakcaaGreatDoor
