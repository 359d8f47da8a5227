import Derived.Test.YtbhjgebjojdohaaF12XD
import Derived.Test.YtbhjgebjojdohaaW3t12WkF
set_option linter.unusedVariables false
set_option linter.unusedSimpArgs false
set_option linter.unusedSectionVars false
namespace Go.Proofs.Ytbhjgebjojdohaa
open Go Go.RowKit Go.Eng
set_option linter.unusedVariables false
theorem Gs (res:Bool) (h:Ee=res) (μ:Frz) (w0:World) (hm:FrzAt μ w0):Calls Try.prog 19 #[] w0 (fun e w=>e=.returned (.bool res)∧Ext w0 w):=by
 subst h;exact Go.Ev.works_calls w0
end Go.Proofs.Ytbhjgebjojdohaa
