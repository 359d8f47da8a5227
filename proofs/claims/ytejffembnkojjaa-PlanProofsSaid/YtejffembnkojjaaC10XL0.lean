/- The chapter's examples hold: the plain program is run by the kernel. -/
import Derived.Test.YtejffembnkojjaaC10XD
namespace Go.Proofs.Ytejffembnkojjaa
open Go Go.RowKit Go.Eng
set_option maxRecDepth 10000
theorem works_eval (k : Nat) : law06_works (k + 60) = some true := by kernel_rfl
end Go.Proofs.Ytejffembnkojjaa
