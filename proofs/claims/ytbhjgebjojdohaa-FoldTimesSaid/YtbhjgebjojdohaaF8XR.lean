/- How data that came in are read, written by program (wip/gen/row.py). -/
import Derived.Test.YtbhjgebjojdohaaF8EB
import Derived.Test.YtbhjgebjojdohaaF8XD
import Derived.Test.YtbhjgebjojdohaaProg
import Derived.OpenShut
namespace Go.Proofs.Ytbhjgebjojdohaa
open Go Go.RowKit Go.Eng
set_option linter.unusedVariables false
def ok5 (x : Int) : Prop := 0 ≤ x ∧ x ≤ 255
theorem rd5 {H : Type} {enc : TypeId × Value → H} {w : World} {cs : List Value} (h : Reads enc Try.prog w 5 cs) : ∃ (x : Int), cs = [.int .u8 x] ∧ ok5 x := by
  obtain ⟨n, e, k⟩ := Reads.int Try.underlying5 h
  exact ⟨n, e, bounds_u8 k⟩

def ok66 (x : Int) : Prop := 0 ≤ x ∧ x ≤ 65535
theorem rd66 {H : Type} {enc : TypeId × Value → H} {w : World} {cs : List Value} (h : Reads enc Try.prog w 66 cs) : ∃ (x : Int), cs = [.int .u16 x] ∧ ok66 x := by
  obtain ⟨n, e, k⟩ := Reads.int Try.underlying66 h
  exact ⟨n, e, bounds_u16 k⟩

def ok67 (x : Int) : Prop := -32768 ≤ x ∧ x ≤ 32767
theorem rd67 {H : Type} {enc : TypeId × Value → H} {w : World} {cs : List Value} (h : Reads enc Try.prog w 67 cs) : ∃ (x : Int), cs = [.int .i16 x] ∧ ok67 x := by
  obtain ⟨n, e, k⟩ := Reads.int Try.underlying67 h
  exact ⟨n, e, bounds_i16 k⟩

def ok68 (l : (List Int)) : Prop := ∀ y ∈ l, ok67 y
theorem rd68 {H : Type} {enc : TypeId × Value → H} {w : World} {cs : List Value} (h : Reads enc Try.prog w 68 cs) : ∃ (x : (List Int)) (ad1 : Option Addr) (cap2 : Nat), cs = [.slice ad1 x.length cap2] ∧ ArrM (memOf w) 1 (fK .i16) ad1 cap2 x ∧ ok68 x := by
  obtain ⟨ad, cap, l, e, hA, k⟩ := Reads.slice (f := (fK .i16)) (ok := ok67) (sz := 1) Try.underlying68 (by kernel_rfl) (by decide) (fun c _ hr => rd67 hr) (fK_len .i16) h
  exact ⟨l, ad, cap, e, hA, k⟩

def ok69 (x : Int) : Prop := 0 ≤ x ∧ x ≤ 4294967295
theorem rd69 {H : Type} {enc : TypeId × Value → H} {w : World} {cs : List Value} (h : Reads enc Try.prog w 69 cs) : ∃ (x : Int), cs = [.int .u32 x] ∧ ok69 x := by
  obtain ⟨n, e, k⟩ := Reads.int Try.underlying69 h
  exact ⟨n, e, bounds_u32 k⟩

def ok70 (l : (List Int)) : Prop := ∀ y ∈ l, ok66 y
theorem rd70 {H : Type} {enc : TypeId × Value → H} {w : World} {cs : List Value} (h : Reads enc Try.prog w 70 cs) : ∃ (x : (List Int)) (ad1 : Option Addr) (cap2 : Nat), cs = [.slice ad1 x.length cap2] ∧ ArrM (memOf w) 1 (fK .u16) ad1 cap2 x ∧ ok70 x := by
  obtain ⟨ad, cap, l, e, hA, k⟩ := Reads.slice (f := (fK .u16)) (ok := ok66) (sz := 1) Try.underlying70 (by kernel_rfl) (by decide) (fun c _ hr => rd66 hr) (fK_len .u16) h
  exact ⟨l, ad, cap, e, hA, k⟩

def ok72 (x : law03_Air) : Prop := ok5 x.Kind ∧ ok5 x.Lambda ∧ ok66 x.First ∧ ok66 x.Second ∧ ok5 x.Rose ∧ ok5 x.Gates ∧ ok67 x.Base ∧ ok68 x.Speeds ∧ ok69 x.Blank ∧ ok70 x.Less ∧ ok70 x.More ∧ ok66 x.Jump
theorem rd72 {H : Type} {enc : TypeId × Value → H} {w : World} {cs : List Value} (h : Reads enc Try.prog w 72 cs) : ∃ (x : law03_Air) (ad1 : Option Addr) (cap2 : Nat) (ad3 : Option Addr) (cap4 : Nat) (ad5 : Option Addr) (cap6 : Nat), cs = [.int .u8 x.Kind, .int .u8 x.Lambda, .int .u16 x.First, .int .u16 x.Second, .int .u8 x.Rose, .int .u8 x.Gates, .int .i16 x.Base, .slice ad1 x.Speeds.length cap2, .int .u32 x.Blank, .slice ad3 x.Less.length cap4, .slice ad5 x.More.length cap6, .int .u16 x.Jump] ∧ ArrM (memOf w) 1 (fK .i16) ad1 cap2 x.Speeds ∧ ArrM (memOf w) 1 (fK .u16) ad3 cap4 x.Less ∧ ArrM (memOf w) 1 (fK .u16) ad5 cap6 x.More ∧ ok72 x := by
  have hl := (Reads.len Try.underlying72 h).trans (show Try.prog.cellsOf 72 = 12 by kernel_rfl)
  match cs, hl with
  | [c0, c1, c2, c3, c4, c5, c6, c7, c8, c9, c10, c11], _ =>
    obtain ⟨x0, e0, k0⟩ := rd5 (Reads.field Try.underlying72 h 0 rfl 1 (by kernel_rfl))
    replace e0 : [c0] = _ := e0
    simp only [List.cons.injEq, and_true] at e0
    obtain ⟨x1, e1, k1⟩ := rd5 (Reads.field Try.underlying72 h 1 rfl 1 (by kernel_rfl))
    replace e1 : [c1] = _ := e1
    simp only [List.cons.injEq, and_true] at e1
    obtain ⟨x2, e2, k2⟩ := rd66 (Reads.field Try.underlying72 h 2 rfl 1 (by kernel_rfl))
    replace e2 : [c2] = _ := e2
    simp only [List.cons.injEq, and_true] at e2
    obtain ⟨x3, e3, k3⟩ := rd66 (Reads.field Try.underlying72 h 3 rfl 1 (by kernel_rfl))
    replace e3 : [c3] = _ := e3
    simp only [List.cons.injEq, and_true] at e3
    obtain ⟨x4, e4, k4⟩ := rd5 (Reads.field Try.underlying72 h 4 rfl 1 (by kernel_rfl))
    replace e4 : [c4] = _ := e4
    simp only [List.cons.injEq, and_true] at e4
    obtain ⟨x5, e5, k5⟩ := rd5 (Reads.field Try.underlying72 h 5 rfl 1 (by kernel_rfl))
    replace e5 : [c5] = _ := e5
    simp only [List.cons.injEq, and_true] at e5
    obtain ⟨x6, e6, k6⟩ := rd67 (Reads.field Try.underlying72 h 6 rfl 1 (by kernel_rfl))
    replace e6 : [c6] = _ := e6
    simp only [List.cons.injEq, and_true] at e6
    obtain ⟨x7, ad1_7, cap2_7, e7, f7_0, k7⟩ := rd68 (Reads.field Try.underlying72 h 7 rfl 1 (by kernel_rfl))
    replace e7 : [c7] = _ := e7
    simp only [List.cons.injEq, and_true] at e7
    obtain ⟨x8, e8, k8⟩ := rd69 (Reads.field Try.underlying72 h 8 rfl 1 (by kernel_rfl))
    replace e8 : [c8] = _ := e8
    simp only [List.cons.injEq, and_true] at e8
    obtain ⟨x9, ad1_9, cap2_9, e9, f9_0, k9⟩ := rd70 (Reads.field Try.underlying72 h 9 rfl 1 (by kernel_rfl))
    replace e9 : [c9] = _ := e9
    simp only [List.cons.injEq, and_true] at e9
    obtain ⟨x10, ad1_10, cap2_10, e10, f10_0, k10⟩ := rd70 (Reads.field Try.underlying72 h 10 rfl 1 (by kernel_rfl))
    replace e10 : [c10] = _ := e10
    simp only [List.cons.injEq, and_true] at e10
    obtain ⟨x11, e11, k11⟩ := rd66 (Reads.field Try.underlying72 h 11 rfl 1 (by kernel_rfl))
    replace e11 : [c11] = _ := e11
    simp only [List.cons.injEq, and_true] at e11
    obtain rfl := e0
    obtain rfl := e1
    obtain rfl := e2
    obtain rfl := e3
    obtain rfl := e4
    obtain rfl := e5
    obtain rfl := e6
    obtain rfl := e7
    obtain rfl := e8
    obtain rfl := e9
    obtain rfl := e10
    obtain rfl := e11
    exact ⟨⟨x0, x1, x2, x3, x4, x5, x6, x7, x8, x9, x10, x11⟩, ad1_7, cap2_7, ad1_9, cap2_9, ad1_10, cap2_10, rfl, f7_0, f9_0, f10_0, k0, k1, k2, k3, k4, k5, k6, k7, k8, k9, k10, k11⟩

def ok73 (x : (Int × Int)) : Prop := ok66 x.1 ∧ ok66 x.2
theorem rd73 {H : Type} {enc : TypeId × Value → H} {w : World} {cs : List Value} (h : Reads enc Try.prog w 73 cs) : ∃ (x : (Int × Int)), cs = [.int .u16 x.1, .int .u16 x.2] ∧ ok73 x := by
  have hl := (Reads.arrLen Try.underlying73 h).trans (show Try.prog.cellsOf 73 = 2 by kernel_rfl)
  match cs, hl with
  | [c0, c1], _ =>
    obtain ⟨x0, e0, k0⟩ := rd66 (Reads.part Try.underlying73 h 0 (by decide) 1 (by kernel_rfl))
    replace e0 : [c0] = _ := e0
    simp only [List.cons.injEq, and_true] at e0
    obtain ⟨x1, e1, k1⟩ := rd66 (Reads.part Try.underlying73 h 1 (by decide) 1 (by kernel_rfl))
    replace e1 : [c1] = _ := e1
    simp only [List.cons.injEq, and_true] at e1
    obtain rfl := e0
    obtain rfl := e1
    exact ⟨⟨x0, x1⟩, rfl, k0, k1⟩
end Go.Proofs.Ytbhjgebjojdohaa
