import Derived.Test.YtbhjgebjojdohaaF10XD
import Derived.Test.YtbhjgebjojdohaaW3t10WkF
namespace Go.Proofs.Ytbhjgebjojdohaa
open Go Go.RowKit Go.Eng
set_option linter.unusedVariables false
theorem Nu (res:Bool) (h:Fg=res) (μ:Frz) (w0:World) (hm:FrzAt μ w0):Calls Try.prog 19 #[] w0 (fun e w=>e=.returned (.bool res)∧Ext w0 w):=by
 subst h
 exact Go.Ev.works_calls w0
end Go.Proofs.Ytbhjgebjojdohaa
