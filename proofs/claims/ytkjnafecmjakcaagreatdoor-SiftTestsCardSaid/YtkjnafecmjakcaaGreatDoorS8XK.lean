import Derived.Test.YtkjnafecmjakcaaGreatDoorS8XD
import Derived.Test.YtkjnafecmjakcaaGreatDoorProg
namespace Go.Proofs.YtkjnafecmjakcaaGreatDoor
open Go Go.RowKit Go.Eng
set_option maxRecDepth 10000
set_option maxHeartbeats 4000000
set_option linter.unusedVariables false
set_option linter.unusedSimpArgs false
theorem Rq:KeyOk Tryz.prog 9 Value.string:=B0q (λ_ _=>by kernel_rfl) (by kernel_rfl)
end Go.Proofs.YtkjnafecmjakcaaGreatDoor
