import Derived.Test.YtjfhcbjhjeklbaaGreatT3XD
namespace Go.Proofs.YtjfhcbjhjeklbaaGreat
open Go Go.RowKit Go.Eng
set_option maxRecDepth 10000
set_option maxHeartbeats 4000000
set_option linter.unusedVariables false
set_option linter.unusedSimpArgs false
theorem A16:KeyOk Tryz.prog 9 Value.string:=B4p (λ_ _=>by kernel_rfl) (by kernel_rfl)
theorem X5:KeyOk Tryz.prog 63 (fA mosaic_Key.cells):=by
  refine KeyAsk.ok ⟨λem x=>by kernel_rfl,λx=>?_,λx y w=>?_,λx y=>by kernel_rfl,by kernel_rfl⟩
  · simp [fA,mosaic_Key.cells,Instr.sameBits,MapKept.bytes_beq]
  · have h1:eqB Tryz.prog 10000 63 (fA mosaic_Key.cells x) (fA mosaic_Key.cells y)=some ((x.Name==y.Name)&&((x.Tilt==y.Tilt)&&((x.Time==y.Time)&&true))):=by kernel_rfl
    refine (Xq _ _ _ _ _ h1 w).trans ?_
    congr 1
    cases x;cases y
    rw [Bool.eq_iff_iff];simp [MapKept.bytes_beq]
theorem A15:KeyOk Tryz.prog 163 (fA mosaic_where.cells):=by
  refine KeyAsk.ok ⟨λem x=>by kernel_rfl,λx=>?_,λx y w=>?_,λx y=>by kernel_rfl,by kernel_rfl⟩
  · simp [fA,mosaic_where.cells,Instr.sameBits,MapKept.bytes_beq]
  · have h1:eqB Tryz.prog 10000 163 (fA mosaic_where.cells x) (fA mosaic_where.cells y)=some ((x.name==y.name)&&(((x.tilt:Int)==y.tilt)&&true)):=by kernel_rfl
    refine (Xq _ _ _ _ _ h1 w).trans ?_
    congr 1
    cases x;cases y
    rw [Bool.eq_iff_iff];simp [MapKept.bytes_beq]
end Go.Proofs.YtjfhcbjhjeklbaaGreat
