import Derived.Test.YtkbjbnkkfifbmaaGreatN11XD
set_option linter.unusedVariables false
set_option linter.unusedSimpArgs false
set_option linter.unusedSectionVars false
namespace Go.Proofs.YtkbjbnkkfifbmaaGreat
open Go Go.RowKit Go.Eng
set_option maxRecDepth 10000
set_option linter.unusedVariables false
theorem N8 (z:Bool) (t:Int):E8 2000 z t=some true:=by
 cases z<;>kernel_rfl
end Go.Proofs.YtkbjbnkkfifbmaaGreat
