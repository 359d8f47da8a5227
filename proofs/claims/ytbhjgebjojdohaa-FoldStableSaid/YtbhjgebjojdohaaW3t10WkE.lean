import Derived.Test.YtbhjgebjojdohaaW3t10WkC
import Derived.Test.YtbhjgebjojdohaaW3t10WkD
namespace Go.Ev
open Go Go.Eng
set_option maxRecDepth 1000000
theorem A8l:Tm Go.Proofs.Try.prog en2.res (ev Go.Proofs.Try.prog A2v (P6 [en3,en4]) 5000 (.call en2.f en2.args) start)=true:=by kernel_rfl
theorem A8m:EntOk Go.Proofs.Try.prog en2:=Tn A4i Ya (fun x h=>by
  rcases List.mem_cons.1 h with rfl|h
  ·exact A8o
  ·rcases List.mem_cons.1 h with rfl|h
   ·exact A8q
   ·cases h) (by kernel_rfl) A8l
end Go.Ev
