import Derived.Test.YtbhjgebjojdohaaW3t10WkB
import Derived.Test.YtbhjgebjojdohaaW3t10WkE
namespace Go.Ev
open Go Go.Eng
set_option maxRecDepth 1000000
theorem A64:Tm Go.Proofs.Try.prog (.pl (.bool true)) (ev Go.Proofs.Try.prog A2v (P6 [en1,en2]) 5000 (.call 19 []) start)=true:=by kernel_rfl
theorem works_ent:EntOk Go.Proofs.Try.prog ⟨19,[],.pl (.bool true)⟩ :=
 Tn A4i Ya (fun x h=>by
  rcases List.mem_cons.1 h with rfl|h
  ·exact A8k
  ·rcases List.mem_cons.1 h with rfl|h
   ·exact A8m
   ·cases h) rfl A64
theorem works_calls (w:World):Calls Go.Proofs.Try.prog 19 #[] w (fun e w'=>e=.returned (.bool true)∧Ext w w'):=works_ent.call _ rfl w
end Go.Ev
