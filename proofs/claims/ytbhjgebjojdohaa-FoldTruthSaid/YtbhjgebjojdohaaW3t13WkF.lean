import Derived.Test.YtbhjgebjojdohaaW3t13WkB
import Derived.Test.YtbhjgebjojdohaaW3t13WkE
namespace Go.Ev
open Go Go.Eng
set_option maxRecDepth 1000000
theorem A51:S8 Go.Proofs.Try.prog (.pl (.bool true)) (ev Go.Proofs.Try.prog A1s (Mn [en1,en2]) 5000 (.call 19 []) start)=true:=by kernel_rfl
theorem works_ent:EntOk Go.Proofs.Try.prog ⟨19,[],.pl (.bool true)⟩ :=
 S9 A3e Wp (fun x h=>by
  rcases List.mem_cons.1 h with rfl|h
  ·exact A7l
  ·rcases List.mem_cons.1 h with rfl|h
   ·exact A7n
   ·cases h) rfl A51
theorem works_calls (w:World):Calls Go.Proofs.Try.prog 19 #[] w (fun e w'=>e=.returned (.bool true)∧Ext w w'):=works_ent.call _ rfl w
end Go.Ev
