import Derived.Test.YtkdhnnfokfchpaaGreatB3XD
namespace Go.Proofs.YtkdhnnfokfchpaaGreat
open Go Go.RowKit Go.Eng
set_option maxRecDepth 10000
set_option maxHeartbeats 4000000
set_option linter.unusedVariables false
set_option linter.unusedSimpArgs false
theorem Tj:KeyOk Tryz.prog 164 (fA fold_place.cells):=by
  refine KeyAsk.ok ⟨λem x=>by kernel_rfl,λx=>?_,λx y w=>?_,λx y=>by kernel_rfl,by kernel_rfl⟩
  · simp [fA,fold_place.cells,Instr.sameBits]
  · have h1:eqB Tryz.prog 10000 164 (fA fold_place.cells x) (fA fold_place.cells y)=some (((x.ray:Int)==y.ray)&&(((x.gate:Int)==y.gate)&&true)):=by kernel_rfl
    refine (X4 _ _ _ _ _ h1 w).trans ?_
    congr 1
    cases x;cases y
    rw [Bool.eq_iff_iff];simp
end Go.Proofs.YtkdhnnfokfchpaaGreat
