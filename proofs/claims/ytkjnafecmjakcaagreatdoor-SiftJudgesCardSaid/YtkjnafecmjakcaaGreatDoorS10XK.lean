import Derived.Test.YtkjnafecmjakcaaGreatDoorS10XD
namespace Go.Proofs.YtkjnafecmjakcaaGreatDoor
open Go Go.RowKit Go.Eng
set_option maxRecDepth 10000
set_option maxHeartbeats 4000000
set_option linter.unusedVariables false
set_option linter.unusedSimpArgs false
theorem U6:KeyOk Tryz.prog 9 Value.string:=B4i (λ_ _=>by kernel_rfl) (by kernel_rfl)
end Go.Proofs.YtkjnafecmjakcaaGreatDoor
