import Derived.Test.YtbhjgebjojdohaaW3t13WkC
import Derived.Test.YtbhjgebjojdohaaW3t13WkD
namespace Go.Ev
open Go Go.Eng
set_option maxRecDepth 1000000
theorem A7m:S8 Go.Proofs.Try.prog en2.res (ev Go.Proofs.Try.prog A1s (Mn [en3,en4]) 5000 (.call en2.f en2.args) start)=true:=by kernel_rfl
theorem A7n:EntOk Go.Proofs.Try.prog en2:=S9 A3e Wp (fun x h=>by
  rcases List.mem_cons.1 h with rfl|h
  ·exact A7p
  ·rcases List.mem_cons.1 h with rfl|h
   ·exact A7r
   ·cases h) (by kernel_rfl) A7m
end Go.Ev
