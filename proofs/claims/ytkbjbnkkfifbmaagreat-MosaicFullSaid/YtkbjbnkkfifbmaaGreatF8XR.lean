import Derived.Test.YtkbjbnkkfifbmaaGreatF8XD
import Derived.Test.YtkbjbnkkfifbmaaGreatProg
import Derived.OpenShut
import Derived.ChangeArms
namespace Go.Proofs.YtkbjbnkkfifbmaaGreat
open Go Go.RowKit Go.Eng
set_option linter.unusedVariables false
def Yx (x:Int):Prop:=0≤x∧x≤65535
theorem Ye {H:Type} {enc:TypeId×Value→H} {w:World} {cs:List Value} (h:Reads enc Tryz.prog w 23 cs):∃(x:Int),cs=[.int .u16 x]∧Yx x:=by
  obtain ⟨n,e,k⟩:=Reads.int Tryz.underlying23 h;exact ⟨n,e,bounds_u16 k⟩
def ok4 (_:Bool):Prop:=True
theorem rd4 {H:Type} {enc:TypeId×Value→H} {w:World} {cs:List Value} (h:Reads enc Tryz.prog w 4 cs):∃(x:Bool),cs=[.bool x]∧ok4 x:=by
  obtain ⟨n,e⟩:=Reads.bool Tryz.underlying4 h;exact ⟨n,e,trivial⟩
end Go.Proofs.YtkbjbnkkfifbmaaGreat
