/- How data that came in are read, written by program (wip/gen/row.py). -/
import Derived.Test.YtbhjgebjojdohaaF3EB
import Derived.Test.YtbhjgebjojdohaaF3XD
import Derived.Test.YtbhjgebjojdohaaProg
import Derived.OpenShut
namespace Go.Proofs.Ytbhjgebjojdohaa
open Go Go.RowKit Go.Eng
set_option linter.unusedVariables false
def ok3 (x : Int) : Prop := -9223372036854775808 ≤ x ∧ x ≤ 9223372036854775807
theorem rd3 {H : Type} {enc : TypeId × Value → H} {w : World} {cs : List Value} (h : Reads enc Try.prog w 3 cs) : ∃ (x : Int), cs = [.int .i64 x] ∧ ok3 x := by
  obtain ⟨n, e, k⟩ := Reads.int Try.underlying3 h
  exact ⟨n, e, bounds_i64 k⟩

def ok23 (x : ref02_Train) : Prop := ok3 x.Lambda ∧ ok3 x.Kind ∧ ok3 x.First ∧ ok3 x.Second ∧ ok3 x.Count
theorem rd23 {H : Type} {enc : TypeId × Value → H} {w : World} {cs : List Value} (h : Reads enc Try.prog w 23 cs) : ∃ (x : ref02_Train), cs = [.int .i64 x.Lambda, .int .i64 x.Kind, .int .i64 x.First, .int .i64 x.Second, .int .i64 x.Count] ∧ ok23 x := by
  have hl := (Reads.len Try.underlying23 h).trans (show Try.prog.cellsOf 23 = 5 by kernel_rfl)
  match cs, hl with
  | [c0, c1, c2, c3, c4], _ =>
    obtain ⟨x0, e0, k0⟩ := rd3 (Reads.field Try.underlying23 h 0 rfl 1 (by kernel_rfl))
    replace e0 : [c0] = _ := e0
    simp only [List.cons.injEq, and_true] at e0
    obtain ⟨x1, e1, k1⟩ := rd3 (Reads.field Try.underlying23 h 1 rfl 1 (by kernel_rfl))
    replace e1 : [c1] = _ := e1
    simp only [List.cons.injEq, and_true] at e1
    obtain ⟨x2, e2, k2⟩ := rd3 (Reads.field Try.underlying23 h 2 rfl 1 (by kernel_rfl))
    replace e2 : [c2] = _ := e2
    simp only [List.cons.injEq, and_true] at e2
    obtain ⟨x3, e3, k3⟩ := rd3 (Reads.field Try.underlying23 h 3 rfl 1 (by kernel_rfl))
    replace e3 : [c3] = _ := e3
    simp only [List.cons.injEq, and_true] at e3
    obtain ⟨x4, e4, k4⟩ := rd3 (Reads.field Try.underlying23 h 4 rfl 1 (by kernel_rfl))
    replace e4 : [c4] = _ := e4
    simp only [List.cons.injEq, and_true] at e4
    obtain rfl := e0
    obtain rfl := e1
    obtain rfl := e2
    obtain rfl := e3
    obtain rfl := e4
    exact ⟨⟨x0, x1, x2, x3, x4⟩, rfl, k0, k1, k2, k3, k4⟩

def ok25 (x : api_Span) : Prop := ok3 x.Lo ∧ ok3 x.Hi
theorem rd25 {H : Type} {enc : TypeId × Value → H} {w : World} {cs : List Value} (h : Reads enc Try.prog w 25 cs) : ∃ (x : api_Span), cs = [.int .i64 x.Lo, .int .i64 x.Hi] ∧ ok25 x := by
  have hl := (Reads.len Try.underlying25 h).trans (show Try.prog.cellsOf 25 = 2 by kernel_rfl)
  match cs, hl with
  | [c0, c1], _ =>
    obtain ⟨x0, e0, k0⟩ := rd3 (Reads.field Try.underlying25 h 0 rfl 1 (by kernel_rfl))
    replace e0 : [c0] = _ := e0
    simp only [List.cons.injEq, and_true] at e0
    obtain ⟨x1, e1, k1⟩ := rd3 (Reads.field Try.underlying25 h 1 rfl 1 (by kernel_rfl))
    replace e1 : [c1] = _ := e1
    simp only [List.cons.injEq, and_true] at e1
    obtain rfl := e0
    obtain rfl := e1
    exact ⟨⟨x0, x1⟩, rfl, k0, k1⟩

def ok26 (x : (api_Span × api_Span)) : Prop := ok25 x.1 ∧ ok25 x.2
theorem rd26 {H : Type} {enc : TypeId × Value → H} {w : World} {cs : List Value} (h : Reads enc Try.prog w 26 cs) : ∃ (x : (api_Span × api_Span)), cs = [.int .i64 x.1.Lo, .int .i64 x.1.Hi, .int .i64 x.2.Lo, .int .i64 x.2.Hi] ∧ ok26 x := by
  have hl := (Reads.arrLen Try.underlying26 h).trans (show Try.prog.cellsOf 26 = 4 by kernel_rfl)
  match cs, hl with
  | [c0, c1, c2, c3], _ =>
    obtain ⟨x0, e0, k0⟩ := rd25 (Reads.part Try.underlying26 h 0 (by decide) 2 (by kernel_rfl))
    replace e0 : [c0, c1] = _ := e0
    simp only [List.cons.injEq, and_true] at e0
    obtain ⟨x1, e1, k1⟩ := rd25 (Reads.part Try.underlying26 h 1 (by decide) 2 (by kernel_rfl))
    replace e1 : [c2, c3] = _ := e1
    simp only [List.cons.injEq, and_true] at e1
    obtain ⟨rfl, rfl⟩ := e0
    obtain ⟨rfl, rfl⟩ := e1
    exact ⟨⟨x0, x1⟩, rfl, k0, k1⟩

def ok28 (x : api_Echo) : Prop := ok3 x.Kind ∧ ok25 x.Power ∧ ok26 x.Steps ∧ ok3 x.Spread ∧ ok25 x.Ratio ∧ ok25 x.Match ∧ ok25 x.Turn
theorem rd28 {H : Type} {enc : TypeId × Value → H} {w : World} {cs : List Value} (h : Reads enc Try.prog w 28 cs) : ∃ (x : api_Echo), cs = [.int .i64 x.Kind, .int .i64 x.Power.Lo, .int .i64 x.Power.Hi, .int .i64 x.Steps.1.Lo, .int .i64 x.Steps.1.Hi, .int .i64 x.Steps.2.Lo, .int .i64 x.Steps.2.Hi, .int .i64 x.Spread, .int .i64 x.Ratio.Lo, .int .i64 x.Ratio.Hi, .int .i64 x.Match.Lo, .int .i64 x.Match.Hi, .int .i64 x.Turn.Lo, .int .i64 x.Turn.Hi] ∧ ok28 x := by
  have hl := (Reads.len Try.underlying28 h).trans (show Try.prog.cellsOf 28 = 14 by kernel_rfl)
  match cs, hl with
  | [c0, c1, c2, c3, c4, c5, c6, c7, c8, c9, c10, c11, c12, c13], _ =>
    obtain ⟨x0, e0, k0⟩ := rd3 (Reads.field Try.underlying28 h 0 rfl 1 (by kernel_rfl))
    replace e0 : [c0] = _ := e0
    simp only [List.cons.injEq, and_true] at e0
    obtain ⟨x1, e1, k1⟩ := rd25 (Reads.field Try.underlying28 h 1 rfl 2 (by kernel_rfl))
    replace e1 : [c1, c2] = _ := e1
    simp only [List.cons.injEq, and_true] at e1
    obtain ⟨x2, e2, k2⟩ := rd26 (Reads.field Try.underlying28 h 2 rfl 4 (by kernel_rfl))
    replace e2 : [c3, c4, c5, c6] = _ := e2
    simp only [List.cons.injEq, and_true] at e2
    obtain ⟨x3, e3, k3⟩ := rd3 (Reads.field Try.underlying28 h 3 rfl 1 (by kernel_rfl))
    replace e3 : [c7] = _ := e3
    simp only [List.cons.injEq, and_true] at e3
    obtain ⟨x4, e4, k4⟩ := rd25 (Reads.field Try.underlying28 h 4 rfl 2 (by kernel_rfl))
    replace e4 : [c8, c9] = _ := e4
    simp only [List.cons.injEq, and_true] at e4
    obtain ⟨x5, e5, k5⟩ := rd25 (Reads.field Try.underlying28 h 5 rfl 2 (by kernel_rfl))
    replace e5 : [c10, c11] = _ := e5
    simp only [List.cons.injEq, and_true] at e5
    obtain ⟨x6, e6, k6⟩ := rd25 (Reads.field Try.underlying28 h 6 rfl 2 (by kernel_rfl))
    replace e6 : [c12, c13] = _ := e6
    simp only [List.cons.injEq, and_true] at e6
    obtain rfl := e0
    obtain ⟨rfl, rfl⟩ := e1
    obtain ⟨rfl, rfl, rfl, rfl⟩ := e2
    obtain rfl := e3
    obtain ⟨rfl, rfl⟩ := e4
    obtain ⟨rfl, rfl⟩ := e5
    obtain ⟨rfl, rfl⟩ := e6
    exact ⟨⟨x0, x1, x2, x3, x4, x5, x6⟩, rfl, k0, k1, k2, k3, k4, k5, k6⟩
end Go.Proofs.Ytbhjgebjojdohaa
