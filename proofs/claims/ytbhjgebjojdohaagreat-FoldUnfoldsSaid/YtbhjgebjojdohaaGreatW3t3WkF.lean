import Derived.Test.YtbhjgebjojdohaaGreatW3t3WkB
import Derived.Test.YtbhjgebjojdohaaGreatW3t3WkE
namespace Go.Ev
open Go Go.Eng
set_option maxRecDepth 1000000
theorem B10:X0 Go.Proofs.Tryz.prog (.pl (.bool true)) (ev Go.Proofs.Tryz.prog A7f (Rq [en1,en2]) 5000 (.call 4 []) start)=true:=by kernel_rfl
theorem works_ent:EntOk Go.Proofs.Tryz.prog ⟨4,[],.pl (.bool true)⟩ :=
 X1 A93 A1w (fun x h=>by
  rcases List.mem_cons.1 h with rfl|h
  ·exact B3x
  ·rcases List.mem_cons.1 h with rfl|h
   ·exact B3z
   ·cases h) rfl B10
theorem works_calls (w:World):Calls Go.Proofs.Tryz.prog 4 #[] w (fun e w'=>e=.returned (.bool true)∧Ext w w'):=works_ent.call _ rfl w
end Go.Ev
