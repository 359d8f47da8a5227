import Derived.Test.YtbhjgebjojdohaaF11XD
import Derived.Test.YtbhjgebjojdohaaW3sWkF
namespace Go.Proofs.Ytbhjgebjojdohaa
open Go Go.RowKit Go.Eng
set_option linter.unusedVariables false
theorem law03_works_ok (res : Bool) (h : law03_works = res) (μ : Frz) (w0 : World) (hm : FrzAt μ w0) : Calls Try.prog 19 #[] w0 (fun e w=>e = .returned (.bool res)∧Ext w0 w):=by
 subst h
 exact Go.Ev.works_calls w0
end Go.Proofs.Ytbhjgebjojdohaa
