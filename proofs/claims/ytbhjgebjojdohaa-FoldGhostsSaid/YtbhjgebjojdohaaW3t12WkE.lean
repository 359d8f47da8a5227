import Derived.Test.YtbhjgebjojdohaaW3t12WkC
import Derived.Test.YtbhjgebjojdohaaW3t12WkD
set_option linter.unusedVariables false
set_option linter.unusedSimpArgs false
set_option linter.unusedSectionVars false
namespace Go.Ev
open Go Go.Eng
set_option maxRecDepth 1000000
theorem A04:Mh Go.Proofs.Try.prog en2.res (ev Go.Proofs.Try.prog Vz (H3 [en3,en4]) 5000 (.call en2.f en2.args) start)=true:=by kernel_rfl
theorem A05:EntOk Go.Proofs.Try.prog en2:=Mi Xa Rq (fun x h=>by
  rcases List.mem_cons.1 h with rfl|h
  ·exact A07
  ·rcases List.mem_cons.1 h with rfl|h
   ·exact A09
   ·cases h) (by kernel_rfl) A04
end Go.Ev
