import Derived.Test.YtbhjgebjojdohaaF13XD
import Derived.Test.YtbhjgebjojdohaaProg
namespace Go.Proofs.Ytbhjgebjojdohaa
open Go Go.RowKit Go.Eng
set_option maxRecDepth 10000
set_option maxHeartbeats 4000000
set_option linter.unusedVariables false
set_option linter.unusedSimpArgs false
theorem Qb:KeyOk Try.prog 192 (fA fold_place.cells):=by
  refine KeyAsk.ok ⟨fun em x=>by kernel_rfl,fun x=>?_,fun x y w=>?_,fun x y=>by kernel_rfl,by kernel_rfl⟩
  · simp [fA,fold_place.cells,Instr.sameBits]
  · have h1:eqB Try.prog 10000 192 (fA fold_place.cells x) (fA fold_place.cells y)=some (((x.ray:Int)==y.ray)&&(((x.gate:Int)==y.gate)&&true)):=by kernel_rfl
    refine (V5 _ _ _ _ _ h1 w).trans ?_
    congr 1
    cases x;cases y
    rw [Bool.eq_iff_iff];simp
end Go.Proofs.Ytbhjgebjojdohaa
