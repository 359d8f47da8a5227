import Derived.Test.YtbhjgebjojdohaaGreatW3t3WkC
import Derived.Test.YtbhjgebjojdohaaGreatW3t3WkD
namespace Go.Ev
open Go Go.Eng
set_option maxRecDepth 1000000
theorem B3y:X0 Go.Proofs.Tryz.prog en2.res (ev Go.Proofs.Tryz.prog A7f (Rq [en3,en4]) 5000 (.call en2.f en2.args) start)=true:=by kernel_rfl
theorem B3z:EntOk Go.Proofs.Tryz.prog en2:=X1 A93 A1w (fun x h=>by
  rcases List.mem_cons.1 h with rfl|h
  ·exact B41
  ·rcases List.mem_cons.1 h with rfl|h
   ·exact B43
   ·cases h) (by kernel_rfl) B3y
end Go.Ev
