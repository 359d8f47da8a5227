import Derived.Test.YtbhjgebjojdohaaF6EB
import Derived.Test.YtbhjgebjojdohaaF6XD
import Derived.Test.YtbhjgebjojdohaaProg
import Derived.OpenShut
namespace Go.Proofs.Ytbhjgebjojdohaa
open Go Go.RowKit Go.Eng
set_option linter.unusedVariables false
def ok3 (x : Int) : Prop:=-9223372036854775808≤x∧x≤9223372036854775807
theorem rd3 {H : Type} {enc : TypeId×Value→H} {w : World} {cs : List Value} (h : Reads enc Try.prog w 3 cs) : ∃ (x : Int),cs = [.int .i64 x]∧ok3 x:=by
  obtain ⟨n,e,k⟩:=Reads.int Try.underlying3 h
  exact ⟨n,e,bounds_i64 k⟩
def ok25 (x : api_Span) : Prop:=ok3 x.Lo∧ok3 x.Hi
theorem rd25 {H : Type} {enc : TypeId×Value→H} {w : World} {cs : List Value} (h : Reads enc Try.prog w 25 cs) : ∃ (x : api_Span),cs = [.int .i64 x.Lo,.int .i64 x.Hi]∧ok25 x:=by
  have hl:=(Reads.len Try.underlying25 h).trans (show Try.prog.cellsOf 25 = 2 by kernel_rfl)
  match cs,hl with
  | [c0,c1],_ =>
    obtain ⟨x0,e0,k0⟩:=rd3 (Reads.field Try.underlying25 h 0 rfl 1 (by kernel_rfl))
    replace e0 : [c0] = _:=e0
    simp only [List.cons.injEq,and_true] at e0
    obtain ⟨x1,e1,k1⟩:=rd3 (Reads.field Try.underlying25 h 1 rfl 1 (by kernel_rfl))
    replace e1 : [c1] = _:=e1
    simp only [List.cons.injEq,and_true] at e1
    obtain rfl:=e0
    obtain rfl:=e1
    exact ⟨⟨x0,x1⟩,rfl,k0,k1⟩
def ok43 (l : (List api_Span)) : Prop:=∀ y ∈ l,ok25 y
theorem rd43 {H : Type} {enc : TypeId×Value→H} {w : World} {cs : List Value} (h : Reads enc Try.prog w 43 cs) : ∃ (x : (List api_Span)) (ad1 : Option Addr) (cap2 : Nat),cs = [.slice ad1 x.length cap2]∧ArrM (memOf w) 2 api_Span.cells ad1 cap2 x∧ok43 x:=by
  obtain ⟨ad,cap,l,e,hA,k⟩:=Reads.slice (f:=api_Span.cells) (ok:=ok25) (sz:=2) Try.underlying43 (by kernel_rfl) (by decide) (fun c _ hr=>rd25 hr) api_Span.cells_len h
  exact ⟨l,ad,cap,e,hA,k⟩
def ok48 (l : (List (List api_Span))) : Prop:=∀ y ∈ l,ok43 y
theorem rd48 {H : Type} {enc : TypeId×Value→H} {w : World} {cs : List Value} (h : Reads enc Try.prog w 48 cs) : ∃ (x : (List (List api_Span))) (ad1 : Option Addr) (cap2 : Nat) (css3 : List (List Value)),cs = [.slice ad1 x.length cap2]∧ArrQ (memOf w) 1 Rp43 ad1 cap2 css3 x∧ok48 x:=by
  obtain ⟨ad,cap,css,l,e,hA,k⟩:=Reads.sliceQ (R:=Rp43) (ok:=ok43) (sz:=1) Try.underlying48 (by kernel_rfl) (by decide) (fun c _ hr=>by
    obtain ⟨x,ad1,cap2,e,f0,k⟩:=rd43 hr
    exact ⟨x,⟨ad1,cap2,e,f0⟩,k⟩) h
  exact ⟨l,ad,cap,css,e,hA,k⟩
def ok54 (l : (List (List (List api_Span)))) : Prop:=∀ y ∈ l,ok48 y
theorem rd54 {H : Type} {enc : TypeId×Value→H} {w : World} {cs : List Value} (h : Reads enc Try.prog w 54 cs) : ∃ (x : (List (List (List api_Span)))) (ad1 : Option Addr) (cap2 : Nat) (css3 : List (List Value)),cs = [.slice ad1 x.length cap2]∧ArrQ (memOf w) 1 Rp48 ad1 cap2 css3 x∧ok54 x:=by
  obtain ⟨ad,cap,css,l,e,hA,k⟩:=Reads.sliceQ (R:=Rp48) (ok:=ok48) (sz:=1) Try.underlying54 (by kernel_rfl) (by decide) (fun c _ hr=>by
    obtain ⟨x,ad1,cap2,css3,e,f0,k⟩:=rd48 hr
    exact ⟨x,⟨ad1,cap2,css3,e,f0⟩,k⟩) h
  exact ⟨l,ad,cap,css,e,hA,k⟩
end Go.Proofs.Ytbhjgebjojdohaa
