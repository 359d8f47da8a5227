import Derived.Test.YtbhjgebjojdohaaF13XD
import Derived.Test.YtbhjgebjojdohaaW3t13WkF
namespace Go.Proofs.Ytbhjgebjojdohaa
open Go Go.RowKit Go.Eng
set_option linter.unusedVariables false
theorem Sr (res:Bool) (h:M7=res) (μ:Frz) (w0:World) (hm:FrzAt μ w0):Calls Try.prog 19 #[] w0 (fun e w=>e=.returned (.bool res)∧Ext w0 w):=by
 subst h;exact Go.Ev.works_calls w0
end Go.Proofs.Ytbhjgebjojdohaa
