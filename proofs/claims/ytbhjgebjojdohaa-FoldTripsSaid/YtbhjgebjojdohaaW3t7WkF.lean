import Derived.Test.YtbhjgebjojdohaaW3t7WkB
import Derived.Test.YtbhjgebjojdohaaW3t7WkE
set_option linter.unusedVariables false
set_option linter.unusedSimpArgs false
set_option linter.unusedSectionVars false
namespace Go.Ev
open Go Go.Eng
set_option maxRecDepth 1000000
theorem A2g:Pp Go.Proofs.Try.prog (.pl (.bool true)) (ev Go.Proofs.Try.prog Za (K7 [en1,en2]) 5000 (.call 19 []) start)=true:=by kernel_rfl
theorem works_ent:EntOk Go.Proofs.Try.prog ⟨19,[],.pl (.bool true)⟩ :=
 Pq A0v Uq (fun x h=>by
  rcases List.mem_cons.1 h with rfl|h
  ·exact A4u
  ·rcases List.mem_cons.1 h with rfl|h
   ·exact A4w
   ·cases h) rfl A2g
theorem works_calls (w:World):Calls Go.Proofs.Try.prog 19 #[] w (fun e w'=>e=.returned (.bool true)∧Ext w w'):=works_ent.call _ rfl w
end Go.Ev
