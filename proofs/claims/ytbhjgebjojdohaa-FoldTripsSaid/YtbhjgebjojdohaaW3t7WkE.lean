import Derived.Test.YtbhjgebjojdohaaW3t7WkC
import Derived.Test.YtbhjgebjojdohaaW3t7WkD
set_option linter.unusedVariables false
set_option linter.unusedSimpArgs false
set_option linter.unusedSectionVars false
namespace Go.Ev
open Go Go.Eng
set_option maxRecDepth 1000000
theorem A4v:Pp Go.Proofs.Try.prog en2.res (ev Go.Proofs.Try.prog Za (K7 [en3,en4]) 5000 (.call en2.f en2.args) start)=true:=by kernel_rfl
theorem A4w:EntOk Go.Proofs.Try.prog en2:=Pq A0v Uq (fun x h=>by
  rcases List.mem_cons.1 h with rfl|h
  ·exact A4y
  ·rcases List.mem_cons.1 h with rfl|h
   ·exact A50
   ·cases h) (by kernel_rfl) A4v
end Go.Ev
