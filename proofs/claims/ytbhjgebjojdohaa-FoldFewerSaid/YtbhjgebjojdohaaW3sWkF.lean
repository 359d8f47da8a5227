import Derived.Test.YtbhjgebjojdohaaW3sWkB
import Derived.Test.YtbhjgebjojdohaaW3sWkE
namespace Go.Ev
open Go Go.Eng
set_option maxRecDepth 1000000
theorem works_is : entIs Go.Proofs.Try.prog (.pl (.bool true)) (ev Go.Proofs.Try.prog okm3 (tblOf [en1,en2]) 5000 (.call 19 []) start) = true:=by kernel_rfl
theorem works_ent : EntOk Go.Proofs.Try.prog ⟨19,[],.pl (.bool true)⟩ :=
 ent_of hmo3 hall3 (fun x h=>by
  rcases List.mem_cons.1 h with rfl | h
  ·exact en1_ok
  ·rcases List.mem_cons.1 h with rfl | h
   ·exact en2_ok
   ·cases h) rfl works_is
theorem works_calls (w : World) : Calls Go.Proofs.Try.prog 19 #[] w (fun e w'=>e = .returned (.bool true)∧Ext w w'):=works_ent.call _ rfl w
end Go.Ev
