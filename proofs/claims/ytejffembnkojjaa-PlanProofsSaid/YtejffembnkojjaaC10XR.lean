/- How data that came in are read, written by program (wip/gen/row.py). -/
import Derived.Test.YtejffembnkojjaaC10EB
import Derived.Test.YtejffembnkojjaaC10XD
import Derived.Test.YtejffembnkojjaaProg
import Derived.OpenShut
namespace Go.Proofs.Ytejffembnkojjaa
open Go Go.RowKit Go.Eng
set_option linter.unusedVariables false
def ok5 (x : Int) : Prop := 0 ≤ x ∧ x ≤ 255
theorem rd5 {H : Type} {enc : TypeId × Value → H} {w : World} {cs : List Value} (h : Reads enc Try.prog w 5 cs) : ∃ (x : Int), cs = [.int .u8 x] ∧ ok5 x := by
  obtain ⟨n, e, k⟩ := Reads.int Try.underlying5 h
  exact ⟨n, e, bounds_u8 k⟩

def ok88 (x : Int) : Prop := 0 ≤ x ∧ x ≤ 65535
theorem rd88 {H : Type} {enc : TypeId × Value → H} {w : World} {cs : List Value} (h : Reads enc Try.prog w 88 cs) : ∃ (x : Int), cs = [.int .u16 x] ∧ ok88 x := by
  obtain ⟨n, e, k⟩ := Reads.int Try.underlying88 h
  exact ⟨n, e, bounds_u16 k⟩

def ok90 (x : law06_Wish) : Prop := ok5 x.Tilt ∧ ok5 x.Count ∧ ok5 x.Kind ∧ ok5 x.Width ∧ ok5 x.First ∧ ok88 x.Every
theorem rd90 {H : Type} {enc : TypeId × Value → H} {w : World} {cs : List Value} (h : Reads enc Try.prog w 90 cs) : ∃ (x : law06_Wish), cs = [.int .u8 x.Tilt, .int .u8 x.Count, .int .u8 x.Kind, .int .u8 x.Width, .int .u8 x.First, .int .u16 x.Every] ∧ ok90 x := by
  have hl := (Reads.len Try.underlying90 h).trans (show Try.prog.cellsOf 90 = 6 by kernel_rfl)
  match cs, hl with
  | [c0, c1, c2, c3, c4, c5], _ =>
    obtain ⟨x0, e0, k0⟩ := rd5 (Reads.field Try.underlying90 h 0 rfl 1 (by kernel_rfl))
    replace e0 : [c0] = _ := e0
    simp only [List.cons.injEq, and_true] at e0
    obtain ⟨x1, e1, k1⟩ := rd5 (Reads.field Try.underlying90 h 1 rfl 1 (by kernel_rfl))
    replace e1 : [c1] = _ := e1
    simp only [List.cons.injEq, and_true] at e1
    obtain ⟨x2, e2, k2⟩ := rd5 (Reads.field Try.underlying90 h 2 rfl 1 (by kernel_rfl))
    replace e2 : [c2] = _ := e2
    simp only [List.cons.injEq, and_true] at e2
    obtain ⟨x3, e3, k3⟩ := rd5 (Reads.field Try.underlying90 h 3 rfl 1 (by kernel_rfl))
    replace e3 : [c3] = _ := e3
    simp only [List.cons.injEq, and_true] at e3
    obtain ⟨x4, e4, k4⟩ := rd5 (Reads.field Try.underlying90 h 4 rfl 1 (by kernel_rfl))
    replace e4 : [c4] = _ := e4
    simp only [List.cons.injEq, and_true] at e4
    obtain ⟨x5, e5, k5⟩ := rd88 (Reads.field Try.underlying90 h 5 rfl 1 (by kernel_rfl))
    replace e5 : [c5] = _ := e5
    simp only [List.cons.injEq, and_true] at e5
    obtain rfl := e0
    obtain rfl := e1
    obtain rfl := e2
    obtain rfl := e3
    obtain rfl := e4
    obtain rfl := e5
    exact ⟨⟨x0, x1, x2, x3, x4, x5⟩, rfl, k0, k1, k2, k3, k4, k5⟩

def ok73 (l : (List law06_Wish)) : Prop := ∀ y ∈ l, ok90 y
theorem rd73 {H : Type} {enc : TypeId × Value → H} {w : World} {cs : List Value} (h : Reads enc Try.prog w 73 cs) : ∃ (x : (List law06_Wish)) (ad1 : Option Addr) (cap2 : Nat), cs = [.slice ad1 x.length cap2] ∧ ArrM (memOf w) 6 law06_Wish.cells ad1 cap2 x ∧ ok73 x := by
  obtain ⟨ad, cap, l, e, hA, k⟩ := Reads.slice (f := law06_Wish.cells) (ok := ok90) (sz := 6) Try.underlying73 (by kernel_rfl) (by decide) (fun c _ hr => rd90 hr) law06_Wish.cells_len h
  exact ⟨l, ad, cap, e, hA, k⟩

def ok75 (x : law06_Desk) : Prop := ok5 x.Rays ∧ ok5 x.Turn ∧ ok5 x.Move ∧ ok5 x.Duty ∧ ok73 x.Jobs
theorem rd75 {H : Type} {enc : TypeId × Value → H} {w : World} {cs : List Value} (h : Reads enc Try.prog w 75 cs) : ∃ (x : law06_Desk) (ad1 : Option Addr) (cap2 : Nat), cs = [.int .u8 x.Rays, .int .u8 x.Turn, .int .u8 x.Move, .int .u8 x.Duty, .slice ad1 x.Jobs.length cap2] ∧ ArrM (memOf w) 6 law06_Wish.cells ad1 cap2 x.Jobs ∧ ok75 x := by
  have hl := (Reads.len Try.underlying75 h).trans (show Try.prog.cellsOf 75 = 5 by kernel_rfl)
  match cs, hl with
  | [c0, c1, c2, c3, c4], _ =>
    obtain ⟨x0, e0, k0⟩ := rd5 (Reads.field Try.underlying75 h 0 rfl 1 (by kernel_rfl))
    replace e0 : [c0] = _ := e0
    simp only [List.cons.injEq, and_true] at e0
    obtain ⟨x1, e1, k1⟩ := rd5 (Reads.field Try.underlying75 h 1 rfl 1 (by kernel_rfl))
    replace e1 : [c1] = _ := e1
    simp only [List.cons.injEq, and_true] at e1
    obtain ⟨x2, e2, k2⟩ := rd5 (Reads.field Try.underlying75 h 2 rfl 1 (by kernel_rfl))
    replace e2 : [c2] = _ := e2
    simp only [List.cons.injEq, and_true] at e2
    obtain ⟨x3, e3, k3⟩ := rd5 (Reads.field Try.underlying75 h 3 rfl 1 (by kernel_rfl))
    replace e3 : [c3] = _ := e3
    simp only [List.cons.injEq, and_true] at e3
    obtain ⟨x4, ad1_4, cap2_4, e4, f4_0, k4⟩ := rd73 (Reads.field Try.underlying75 h 4 rfl 1 (by kernel_rfl))
    replace e4 : [c4] = _ := e4
    simp only [List.cons.injEq, and_true] at e4
    obtain rfl := e0
    obtain rfl := e1
    obtain rfl := e2
    obtain rfl := e3
    obtain rfl := e4
    exact ⟨⟨x0, x1, x2, x3, x4⟩, ad1_4, cap2_4, rfl, f4_0, k0, k1, k2, k3, k4⟩
end Go.Proofs.Ytejffembnkojjaa
