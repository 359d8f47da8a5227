import Derived.Test.YtbhjgebjojdohaaW3sWkC
import Derived.Test.YtbhjgebjojdohaaW3sWkD
namespace Go.Ev
open Go Go.Eng
set_option maxRecDepth 1000000
theorem en2_is : entIs Go.Proofs.Try.prog en2.res (ev Go.Proofs.Try.prog okm3 (tblOf [en3,en4]) 5000 (.call en2.f en2.args) start) = true:=by kernel_rfl
theorem en2_ok : EntOk Go.Proofs.Try.prog en2:=ent_of hmo3 hall3 (fun x h=>by
  rcases List.mem_cons.1 h with rfl | h
  ·exact en3_ok
  ·rcases List.mem_cons.1 h with rfl | h
   ·exact en4_ok
   ·cases h) (by kernel_rfl) en2_is
end Go.Ev
