import Derived.Shelf.Strings.FuncGrows
import Derived.Test.YtkbjbnkkfifbmaaProg
set_option linter.unusedVariables false
set_option linter.unusedSimpArgs false
set_option linter.unusedSectionVars false
namespace Go.Proofs
open Go.Shelf
def Try.cf_ren:Go.Shelf.Ren:=⟨fun|17=>52|15=>66|20=>75|n=>n,fun|9=>9|23=>137|4=>4|3=>3|0=>0|21=>21|n=>n,fun|n=>n⟩
theorem Try.cf:Go.Proofs.LaysGw.n17 Try.prog Try.cf_ren:={
 mixed:=by kernel_rfl
 f15:=Try.func66.trans (congrArg some (by kernel_rfl))
 f17:=Try.func52.trans (congrArg some (by kernel_rfl))
 f20:=Try.func75.trans (congrArg some (by kernel_rfl))
 t0:=Try.underlying0
 a0:=Try.isAgg0
 z0:=Try.sizeOf0
 v0:=Try.zeroValue0
 i0:=by kernel_rfl
 t3:=Try.underlying3
 a3:=Try.isAgg3
 z3:=Try.sizeOf3
 v3:=Try.zeroValue3
 i3:=by kernel_rfl
 t4:=Try.underlying4
 a4:=Try.isAgg4
 z4:=Try.sizeOf4
 v4:=Try.zeroValue4
 i4:=by kernel_rfl
 t9:=Try.underlying9
 a9:=Try.isAgg9
 z9:=Try.sizeOf9
 v9:=Try.zeroValue9
 i9:=by kernel_rfl
 t21:=Try.underlying21
 a21:=Try.isAgg21
 z21:=Try.sizeOf21
 v21:=Try.zeroValue21
 i21:=by kernel_rfl
 t23:=Try.underlying137
 a23:=Try.isAgg137
 z23:=Try.sizeOf137
 v23:=Try.zeroValue137
 i23:=by kernel_rfl }
end Go.Proofs
