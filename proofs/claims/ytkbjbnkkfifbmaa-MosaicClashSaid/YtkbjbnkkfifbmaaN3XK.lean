import Derived.Test.YtkbjbnkkfifbmaaN3XD
import Derived.Test.YtkbjbnkkfifbmaaProg
namespace Go.Proofs.Ytkbjbnkkfifbmaa
open Go Go.RowKit Go.Eng
set_option maxRecDepth 10000
set_option maxHeartbeats 4000000
set_option linter.unusedVariables false
set_option linter.unusedSimpArgs false
theorem Q9:KeyOk Try.prog 9 Value.string:=Y4 (fun _ _=>by kernel_rfl) (by kernel_rfl)
theorem Pd:KeyOk Try.prog 46 (fA mosaic_Key.cells):=by
  refine KeyAsk.ok ⟨fun em x=>by kernel_rfl,fun x=>?_,fun x y w=>?_,fun x y=>by kernel_rfl,by kernel_rfl⟩
  · simp [fA,mosaic_Key.cells,Instr.sameBits,MapKept.bytes_beq]
  · have h1:eqB Try.prog 10000 46 (fA mosaic_Key.cells x) (fA mosaic_Key.cells y)=some ((x.Name==y.Name)&&(((x.Tilt:Int)==y.Tilt)&&(((x.Time:Int)==y.Time)&&true))):=by kernel_rfl
    refine (Q5 _ _ _ _ _ h1 w).trans ?_
    congr 1
    cases x;cases y
    rw [Bool.eq_iff_iff];simp [MapKept.bytes_beq]
theorem Q8:KeyOk Try.prog 111 (fA mosaic_where.cells):=by
  refine KeyAsk.ok ⟨fun em x=>by kernel_rfl,fun x=>?_,fun x y w=>?_,fun x y=>by kernel_rfl,by kernel_rfl⟩
  · simp [fA,mosaic_where.cells,Instr.sameBits,MapKept.bytes_beq]
  · have h1:eqB Try.prog 10000 111 (fA mosaic_where.cells x) (fA mosaic_where.cells y)=some ((x.name==y.name)&&(((x.tilt:Int)==y.tilt)&&true)):=by kernel_rfl
    refine (Q5 _ _ _ _ _ h1 w).trans ?_
    congr 1
    cases x;cases y
    rw [Bool.eq_iff_iff];simp [MapKept.bytes_beq]
end Go.Proofs.Ytkbjbnkkfifbmaa
