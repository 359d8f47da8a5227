import Derived.Test.YtkbjbnkkfifbmaaGreatS10XD
import Derived.Test.YtkbjbnkkfifbmaaGreatProg
namespace Go.Proofs.YtkbjbnkkfifbmaaGreat
open Go Go.RowKit Go.Eng
set_option maxRecDepth 10000
set_option maxHeartbeats 4000000
set_option linter.unusedVariables false
set_option linter.unusedSimpArgs false
theorem Uk:KeyOk Tryz.prog 9 Value.string:=A59 (fun _ _=>by kernel_rfl) (by kernel_rfl)
theorem Nz:KeyOk Tryz.prog 46 (fA mosaic_Key.cells):=by
  refine KeyAsk.ok ⟨fun em x=>by kernel_rfl,fun x=>?_,fun x y w=>?_,fun x y=>by kernel_rfl,by kernel_rfl⟩
  · simp [fA,mosaic_Key.cells,Instr.sameBits,MapKept.bytes_beq]
  · have h1:eqB Tryz.prog 10000 46 (fA mosaic_Key.cells x) (fA mosaic_Key.cells y)=some ((x.Name==y.Name)&&(((x.Tilt:Int)==y.Tilt)&&(((x.Time:Int)==y.Time)&&true))):=by kernel_rfl
    refine (S0 _ _ _ _ _ h1 w).trans ?_
    congr 1
    cases x;cases y
    rw [Bool.eq_iff_iff];simp [MapKept.bytes_beq]
theorem Uj:KeyOk Tryz.prog 200 (fA mosaic_where.cells):=by
  refine KeyAsk.ok ⟨fun em x=>by kernel_rfl,fun x=>?_,fun x y w=>?_,fun x y=>by kernel_rfl,by kernel_rfl⟩
  · simp [fA,mosaic_where.cells,Instr.sameBits,MapKept.bytes_beq]
  · have h1:eqB Tryz.prog 10000 200 (fA mosaic_where.cells x) (fA mosaic_where.cells y)=some ((x.name==y.name)&&(((x.tilt:Int)==y.tilt)&&true)):=by kernel_rfl
    refine (S0 _ _ _ _ _ h1 w).trans ?_
    congr 1
    cases x;cases y
    rw [Bool.eq_iff_iff];simp [MapKept.bytes_beq]
end Go.Proofs.YtkbjbnkkfifbmaaGreat
