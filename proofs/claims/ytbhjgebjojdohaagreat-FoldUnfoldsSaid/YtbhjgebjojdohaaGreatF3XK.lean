import Derived.Test.YtbhjgebjojdohaaGreatF3XD
import Derived.Test.YtbhjgebjojdohaaGreatProg
namespace Go.Proofs.YtbhjgebjojdohaaGreat
open Go Go.RowKit Go.Eng
set_option maxRecDepth 10000
set_option maxHeartbeats 4000000
set_option linter.unusedVariables false
set_option linter.unusedSimpArgs false
theorem Up:KeyOk Tryz.prog 141 (fA zB.cells):=by
  refine KeyAsk.ok ⟨fun em x=>by kernel_rfl,fun x=>?_,fun x y w=>?_,fun x y=>by kernel_rfl,by kernel_rfl⟩
  · simp [fA,zB.cells,Instr.sameBits]
  · have h1:eqB Tryz.prog 10000 141 (fA zB.cells x) (fA zB.cells y)=some (((x.ray:Int)==y.ray)&&(((x.gate:Int)==y.gate)&&true)):=by kernel_rfl
    refine (A0a _ _ _ _ _ h1 w).trans ?_
    congr 1
    cases x;cases y
    rw [Bool.eq_iff_iff];simp
end Go.Proofs.YtbhjgebjojdohaaGreat
