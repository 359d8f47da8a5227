import Derived.Test.YtifbomimeodibaaGreatV3EB
import Derived.Test.YtifbomimeodibaaGreatV3XD
import Derived.Test.YtifbomimeodibaaGreatProg
import Derived.OpenShut
import Derived.ChangeArms
namespace Go.Proofs.YtifbomimeodibaaGreat
open Go Go.RowKit Go.Eng
set_option linter.unusedVariables false
def ok5 (x:Int):Prop:=0≤x∧x≤255
theorem rd5 {H:Type} {enc:TypeId×Value→H} {w:World} {cs:List Value} (h:Reads enc Tryz.prog w 5 cs):∃(x:Int),cs=[.int .u8 x]∧ok5 x:=by
  obtain ⟨n,e,k⟩:=Reads.int Tryz.underlying5 h
  exact ⟨n,e,bounds_u8 k⟩
def A3n (l:(List Int)):Prop:=∀y∈l,ok5 y
theorem A3o {H:Type} {enc:TypeId×Value→H} {w:World} {cs:List Value} (h:Reads enc Tryz.prog w 22 cs):∃(x:(List Int)) (ad1:Option Addr) (cap2:Nat),cs=[.slice ad1 x.length cap2]∧ArrM (Fs w) 1 (fK .u8) ad1 cap2 x∧A3n x:=by
  obtain ⟨ad,cap,l,e,hA,k⟩:=Reads.slice (f:=(fK .u8)) (ok:=ok5) (sz:=1) Tryz.underlying22 (by kernel_rfl) (by decide) (fun c _ hr=>rd5 hr) (Bc .u8) h
  exact ⟨l,ad,cap,e,hA,k⟩
end Go.Proofs.YtifbomimeodibaaGreat
