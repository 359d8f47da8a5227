import Derived.Test.YtkbjbnkkfifbmaaGreatN11XD
import Derived.Test.YtkbjbnkkfifbmaaGreatProg
import Derived.OpenShut
import Derived.ChangeArms
namespace Go.Proofs.YtkbjbnkkfifbmaaGreat
open Go Go.RowKit Go.Eng
set_option linter.unusedVariables false
def ok4 (_:Bool):Prop:=True
theorem rd4 {H:Type} {enc:TypeId×Value→H} {w:World} {cs:List Value} (h:Reads enc Tryz.prog w 4 cs):∃(x:Bool),cs=[.bool x]∧ok4 x:=by
  obtain ⟨n,e⟩:=Reads.bool Tryz.underlying4 h;exact ⟨n,e,trivial⟩
def ok3 (x:Int):Prop:=-9223372036854775808≤x∧x≤9223372036854775807
theorem rd3 {H:Type} {enc:TypeId×Value→H} {w:World} {cs:List Value} (h:Reads enc Tryz.prog w 3 cs):∃(x:Int),cs=[.int .i64 x]∧ok3 x:=by
  obtain ⟨n,e,k⟩:=Reads.int Tryz.underlying3 h;exact ⟨n,e,bounds_i64 k⟩
end Go.Proofs.YtkbjbnkkfifbmaaGreat
