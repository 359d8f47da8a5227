/- How data that came in are read, written by program (wip/gen/row.py). -/
import Derived.Test.YtejffembnkojjaaC6EB
import Derived.Test.YtejffembnkojjaaC6XD
import Derived.Test.YtejffembnkojjaaProg
import Derived.OpenShut
namespace Go.Proofs.Ytejffembnkojjaa
open Go Go.RowKit Go.Eng
set_option linter.unusedVariables false
def ok3 (x : Int) : Prop := -9223372036854775808 ≤ x ∧ x ≤ 9223372036854775807
theorem rd3 {H : Type} {enc : TypeId × Value → H} {w : World} {cs : List Value} (h : Reads enc Try.prog w 3 cs) : ∃ (x : Int), cs = [.int .i64 x] ∧ ok3 x := by
  obtain ⟨n, e, k⟩ := Reads.int Try.underlying3 h
  exact ⟨n, e, bounds_i64 k⟩

def ok23 (x : ref06_Radar) : Prop := ok3 x.Rays ∧ ok3 x.Turn ∧ ok3 x.Move ∧ ok3 x.Duty
theorem rd23 {H : Type} {enc : TypeId × Value → H} {w : World} {cs : List Value} (h : Reads enc Try.prog w 23 cs) : ∃ (x : ref06_Radar), cs = [.int .i64 x.Rays, .int .i64 x.Turn, .int .i64 x.Move, .int .i64 x.Duty] ∧ ok23 x := by
  have hl := (Reads.len Try.underlying23 h).trans (show Try.prog.cellsOf 23 = 4 by kernel_rfl)
  match cs, hl with
  | [c0, c1, c2, c3], _ =>
    obtain ⟨x0, e0, k0⟩ := rd3 (Reads.field Try.underlying23 h 0 rfl 1 (by kernel_rfl))
    replace e0 : [c0] = _ := e0
    simp only [List.cons.injEq, and_true] at e0
    obtain ⟨x1, e1, k1⟩ := rd3 (Reads.field Try.underlying23 h 1 rfl 1 (by kernel_rfl))
    replace e1 : [c1] = _ := e1
    simp only [List.cons.injEq, and_true] at e1
    obtain ⟨x2, e2, k2⟩ := rd3 (Reads.field Try.underlying23 h 2 rfl 1 (by kernel_rfl))
    replace e2 : [c2] = _ := e2
    simp only [List.cons.injEq, and_true] at e2
    obtain ⟨x3, e3, k3⟩ := rd3 (Reads.field Try.underlying23 h 3 rfl 1 (by kernel_rfl))
    replace e3 : [c3] = _ := e3
    simp only [List.cons.injEq, and_true] at e3
    obtain rfl := e0
    obtain rfl := e1
    obtain rfl := e2
    obtain rfl := e3
    exact ⟨⟨x0, x1, x2, x3⟩, rfl, k0, k1, k2, k3⟩

def ok25 (x : ref02_Train) : Prop := ok3 x.Lambda ∧ ok3 x.Kind ∧ ok3 x.First ∧ ok3 x.Second ∧ ok3 x.Count
theorem rd25 {H : Type} {enc : TypeId × Value → H} {w : World} {cs : List Value} (h : Reads enc Try.prog w 25 cs) : ∃ (x : ref02_Train), cs = [.int .i64 x.Lambda, .int .i64 x.Kind, .int .i64 x.First, .int .i64 x.Second, .int .i64 x.Count] ∧ ok25 x := by
  have hl := (Reads.len Try.underlying25 h).trans (show Try.prog.cellsOf 25 = 5 by kernel_rfl)
  match cs, hl with
  | [c0, c1, c2, c3, c4], _ =>
    obtain ⟨x0, e0, k0⟩ := rd3 (Reads.field Try.underlying25 h 0 rfl 1 (by kernel_rfl))
    replace e0 : [c0] = _ := e0
    simp only [List.cons.injEq, and_true] at e0
    obtain ⟨x1, e1, k1⟩ := rd3 (Reads.field Try.underlying25 h 1 rfl 1 (by kernel_rfl))
    replace e1 : [c1] = _ := e1
    simp only [List.cons.injEq, and_true] at e1
    obtain ⟨x2, e2, k2⟩ := rd3 (Reads.field Try.underlying25 h 2 rfl 1 (by kernel_rfl))
    replace e2 : [c2] = _ := e2
    simp only [List.cons.injEq, and_true] at e2
    obtain ⟨x3, e3, k3⟩ := rd3 (Reads.field Try.underlying25 h 3 rfl 1 (by kernel_rfl))
    replace e3 : [c3] = _ := e3
    simp only [List.cons.injEq, and_true] at e3
    obtain ⟨x4, e4, k4⟩ := rd3 (Reads.field Try.underlying25 h 4 rfl 1 (by kernel_rfl))
    replace e4 : [c4] = _ := e4
    simp only [List.cons.injEq, and_true] at e4
    obtain rfl := e0
    obtain rfl := e1
    obtain rfl := e2
    obtain rfl := e3
    obtain rfl := e4
    exact ⟨⟨x0, x1, x2, x3, x4⟩, rfl, k0, k1, k2, k3, k4⟩

def ok27 (x : ref06_Job) : Prop := ok3 x.Tilt ∧ ok25 x.Train ∧ ok3 x.Width ∧ ok3 x.Every
theorem rd27 {H : Type} {enc : TypeId × Value → H} {w : World} {cs : List Value} (h : Reads enc Try.prog w 27 cs) : ∃ (x : ref06_Job), cs = [.int .i64 x.Tilt, .int .i64 x.Train.Lambda, .int .i64 x.Train.Kind, .int .i64 x.Train.First, .int .i64 x.Train.Second, .int .i64 x.Train.Count, .int .i64 x.Width, .int .i64 x.Every] ∧ ok27 x := by
  have hl := (Reads.len Try.underlying27 h).trans (show Try.prog.cellsOf 27 = 8 by kernel_rfl)
  match cs, hl with
  | [c0, c1, c2, c3, c4, c5, c6, c7], _ =>
    obtain ⟨x0, e0, k0⟩ := rd3 (Reads.field Try.underlying27 h 0 rfl 1 (by kernel_rfl))
    replace e0 : [c0] = _ := e0
    simp only [List.cons.injEq, and_true] at e0
    obtain ⟨x1, e1, k1⟩ := rd25 (Reads.field Try.underlying27 h 1 rfl 5 (by kernel_rfl))
    replace e1 : [c1, c2, c3, c4, c5] = _ := e1
    simp only [List.cons.injEq, and_true] at e1
    obtain ⟨x2, e2, k2⟩ := rd3 (Reads.field Try.underlying27 h 2 rfl 1 (by kernel_rfl))
    replace e2 : [c6] = _ := e2
    simp only [List.cons.injEq, and_true] at e2
    obtain ⟨x3, e3, k3⟩ := rd3 (Reads.field Try.underlying27 h 3 rfl 1 (by kernel_rfl))
    replace e3 : [c7] = _ := e3
    simp only [List.cons.injEq, and_true] at e3
    obtain rfl := e0
    obtain ⟨rfl, rfl, rfl, rfl, rfl⟩ := e1
    obtain rfl := e2
    obtain rfl := e3
    exact ⟨⟨x0, x1, x2, x3⟩, rfl, k0, k1, k2, k3⟩

def ok39 (l : (List ref06_Job)) : Prop := ∀ y ∈ l, ok27 y
theorem rd39 {H : Type} {enc : TypeId × Value → H} {w : World} {cs : List Value} (h : Reads enc Try.prog w 39 cs) : ∃ (x : (List ref06_Job)) (ad1 : Option Addr) (cap2 : Nat), cs = [.slice ad1 x.length cap2] ∧ ArrM (memOf w) 8 ref06_Job.cells ad1 cap2 x ∧ ok39 x := by
  obtain ⟨ad, cap, l, e, hA, k⟩ := Reads.slice (f := ref06_Job.cells) (ok := ok27) (sz := 8) Try.underlying39 (by kernel_rfl) (by decide) (fun c _ hr => rd27 hr) ref06_Job.cells_len h
  exact ⟨l, ad, cap, e, hA, k⟩

def ok40 (l : (List Int)) : Prop := ∀ y ∈ l, ok3 y
theorem rd40 {H : Type} {enc : TypeId × Value → H} {w : World} {cs : List Value} (h : Reads enc Try.prog w 40 cs) : ∃ (x : (List Int)) (ad1 : Option Addr) (cap2 : Nat), cs = [.slice ad1 x.length cap2] ∧ ArrM (memOf w) 1 fI ad1 cap2 x ∧ ok40 x := by
  obtain ⟨ad, cap, l, e, hA, k⟩ := Reads.slice (f := fI) (ok := ok3) (sz := 1) Try.underlying40 (by kernel_rfl) (by decide) (fun c _ hr => rd3 hr) fI_len h
  exact ⟨l, ad, cap, e, hA, k⟩

def ok59 (x : ref06_Cut) : Prop := ok40 x.Begin ∧ ok3 x.Late
theorem rd59 {H : Type} {enc : TypeId × Value → H} {w : World} {cs : List Value} (h : Reads enc Try.prog w 59 cs) : ∃ (x : ref06_Cut) (ad1 : Option Addr) (cap2 : Nat), cs = [.slice ad1 x.Begin.length cap2, .int .i64 x.Late] ∧ ArrM (memOf w) 1 fI ad1 cap2 x.Begin ∧ ok59 x := by
  have hl := (Reads.len Try.underlying59 h).trans (show Try.prog.cellsOf 59 = 2 by kernel_rfl)
  match cs, hl with
  | [c0, c1], _ =>
    obtain ⟨x0, ad1_0, cap2_0, e0, f0_0, k0⟩ := rd40 (Reads.field Try.underlying59 h 0 rfl 1 (by kernel_rfl))
    replace e0 : [c0] = _ := e0
    simp only [List.cons.injEq, and_true] at e0
    obtain ⟨x1, e1, k1⟩ := rd3 (Reads.field Try.underlying59 h 1 rfl 1 (by kernel_rfl))
    replace e1 : [c1] = _ := e1
    simp only [List.cons.injEq, and_true] at e1
    obtain rfl := e0
    obtain rfl := e1
    exact ⟨⟨x0, x1⟩, ad1_0, cap2_0, rfl, f0_0, k0, k1⟩

def ok57 (l : (List ref06_Cut)) : Prop := ∀ y ∈ l, ok59 y
theorem rd57 {H : Type} {enc : TypeId × Value → H} {w : World} {cs : List Value} (h : Reads enc Try.prog w 57 cs) : ∃ (x : (List ref06_Cut)) (ad1 : Option Addr) (cap2 : Nat) (css3 : List (List Value)), cs = [.slice ad1 x.length cap2] ∧ ArrQ (memOf w) 2 Rp59 ad1 cap2 css3 x ∧ ok57 x := by
  obtain ⟨ad, cap, css, l, e, hA, k⟩ := Reads.sliceQ (R := Rp59) (ok := ok59) (sz := 2) Try.underlying57 (by kernel_rfl) (by decide) (fun c _ hr => by
    obtain ⟨x, ad1, cap2, e, f0, k⟩ := rd59 hr
    exact ⟨x, ⟨ad1, cap2, e, f0⟩, k⟩) h
  exact ⟨l, ad, cap, css, e, hA, k⟩
end Go.Proofs.Ytejffembnkojjaa
