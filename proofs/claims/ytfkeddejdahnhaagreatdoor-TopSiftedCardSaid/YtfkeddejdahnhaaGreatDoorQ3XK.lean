import Derived.Test.YtfkeddejdahnhaaGreatDoorQ3XD
namespace Go.Proofs.YtfkeddejdahnhaaGreatDoor
open Go Go.RowKit Go.Eng
set_option maxRecDepth 10000
set_option maxHeartbeats 4000000
set_option linter.unusedVariables false
set_option linter.unusedSimpArgs false
theorem A2c:KeyOk Tryz.prog 9 Value.string:=B8v (λ_ _=>by kernel_rfl) (by kernel_rfl)
theorem Zj:KeyOk Tryz.prog 157 (fA zE.cells):=by
  refine KeyAsk.ok ⟨λem x=>by kernel_rfl,λx=>?_,λx y w=>?_,λx y=>by kernel_rfl,by kernel_rfl⟩
  · simp [fA,zE.cells,Instr.sameBits]
  · have h1:eqB Tryz.prog 10000 157 (fA zE.cells x) (fA zE.cells y)=some (((x.ray:Int)==y.ray)&&(((x.gate:Int)==y.gate)&&true)):=by kernel_rfl
    refine (A3n _ _ _ _ _ h1 w).trans ?_
    congr 1
    cases x;cases y
    rw [Bool.eq_iff_iff];simp
end Go.Proofs.YtfkeddejdahnhaaGreatDoor
