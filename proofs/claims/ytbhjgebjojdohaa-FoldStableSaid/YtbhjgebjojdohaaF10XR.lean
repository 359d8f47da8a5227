import Derived.Test.YtbhjgebjojdohaaF10EB
import Derived.Test.YtbhjgebjojdohaaF10XD
import Derived.Test.YtbhjgebjojdohaaProg
import Derived.OpenShut
namespace Go.Proofs.Ytbhjgebjojdohaa
open Go Go.RowKit Go.Eng
set_option linter.unusedVariables false
def ok5 (x:Int):Prop:=0≤x∧x≤255
theorem rd5 {H:Type} {enc:TypeId×Value→H} {w:World} {cs:List Value} (h:Reads enc Try.prog w 5 cs):∃(x:Int),cs=[.int .u8 x]∧ok5 x:=by
  obtain ⟨n,e,k⟩:=Reads.int Try.underlying5 h
  exact ⟨n,e,bounds_u8 k⟩
def A9g (l:(List Int)):Prop:=∀y∈l,ok5 y
theorem B11 {H:Type} {enc:TypeId×Value→H} {w:World} {cs:List Value} (h:Reads enc Try.prog w 91 cs):∃(x:(List Int)) (ad1:Option Addr) (cap2:Nat),cs=[.slice ad1 x.length cap2]∧ArrM (Ci w) 1 (fK .u8) ad1 cap2 x∧A9g x:=by
  obtain ⟨ad,cap,l,e,hA,k⟩:=Reads.slice (f:=(fK .u8)) (ok:=ok5) (sz:=1) Try.underlying91 (by kernel_rfl) (by decide) (fun c _ hr=>rd5 hr) (A4b .u8) h
  exact ⟨l,ad,cap,e,hA,k⟩
def A9f (l:(List (List Int))):Prop:=∀y∈l,A9g y
theorem B0z {H:Type} {enc:TypeId×Value→H} {w:World} {cs:List Value} (h:Reads enc Try.prog w 82 cs):∃(x:(List (List Int))) (ad1:Option Addr) (cap2:Nat) (css3:List (List Value)),cs=[.slice ad1 x.length cap2]∧ArrQ (Ci w) 1 Rp91 ad1 cap2 css3 x∧A9f x:=by
  obtain ⟨ad,cap,css,l,e,hA,k⟩:=Reads.sliceQ (R:=Rp91) (ok:=A9g) (sz:=1) Try.underlying82 (by kernel_rfl) (by decide) (fun c _ hr=>by
    obtain ⟨x,ad1,cap2,e,f0,k⟩:=B11 hr
    exact ⟨x,⟨ad1,cap2,e,f0⟩,k⟩) h
  exact ⟨l,ad,cap,css,e,hA,k⟩
def B0y (l:(List (List (List Int)))):Prop:=∀y∈l,A9f y
theorem B10 {H:Type} {enc:TypeId×Value→H} {w:World} {cs:List Value} (h:Reads enc Try.prog w 90 cs):∃(x:(List (List (List Int)))) (ad1:Option Addr) (cap2:Nat) (css3:List (List Value)),cs=[.slice ad1 x.length cap2]∧ArrQ (Ci w) 1 Rp82 ad1 cap2 css3 x∧B0y x:=by
  obtain ⟨ad,cap,css,l,e,hA,k⟩:=Reads.sliceQ (R:=Rp82) (ok:=A9f) (sz:=1) Try.underlying90 (by kernel_rfl) (by decide) (fun c _ hr=>by
    obtain ⟨x,ad1,cap2,css3,e,f0,k⟩:=B0z hr
    exact ⟨x,⟨ad1,cap2,css3,e,f0⟩,k⟩) h
  exact ⟨l,ad,cap,css,e,hA,k⟩
end Go.Proofs.Ytbhjgebjojdohaa
