import Derived.Test.YtbhjgebjojdohaaGreatF3XD
import Derived.Test.YtbhjgebjojdohaaGreatW3t3WkF
namespace Go.Proofs.YtbhjgebjojdohaaGreat
open Go Go.RowKit Go.Eng
set_option linter.unusedVariables false
theorem P0 (res:Bool) (h:K6=res) (μ:Frz) (w0:World) (hm:FrzAt μ w0):Calls Tryz.prog 4 #[] w0 (fun e w=>e=.returned (.bool res)∧Ext w0 w):=by
 subst h;exact Go.Ev.works_calls w0
end Go.Proofs.YtbhjgebjojdohaaGreat
