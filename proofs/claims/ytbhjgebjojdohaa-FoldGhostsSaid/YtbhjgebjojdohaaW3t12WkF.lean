import Derived.Test.YtbhjgebjojdohaaW3t12WkB
import Derived.Test.YtbhjgebjojdohaaW3t12WkE
set_option linter.unusedVariables false
set_option linter.unusedSimpArgs false
set_option linter.unusedSectionVars false
namespace Go.Ev
open Go Go.Eng
set_option maxRecDepth 1000000
theorem Ye:Mh Go.Proofs.Try.prog (.pl (.bool true)) (ev Go.Proofs.Try.prog Vz (H3 [en1,en2]) 5000 (.call 19 []) start)=true:=by kernel_rfl
theorem works_ent:EntOk Go.Proofs.Try.prog ⟨19,[],.pl (.bool true)⟩ :=
 Mi Xa Rq (fun x h=>by
  rcases List.mem_cons.1 h with rfl|h
  ·exact A03
  ·rcases List.mem_cons.1 h with rfl|h
   ·exact A05
   ·cases h) rfl Ye
theorem works_calls (w:World):Calls Go.Proofs.Try.prog 19 #[] w (fun e w'=>e=.returned (.bool true)∧Ext w w'):=works_ent.call _ rfl w
end Go.Ev
