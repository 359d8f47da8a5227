import Derived.Shelf.Lays
import Derived.Shelf.Lays2
import Derived.Shelf.Lays7
import Derived.Test.YtkdhnnfokfchpaaGreatProg
set_option linter.unusedVariables false
set_option linter.unusedSimpArgs false
set_option linter.unusedSectionVars false
namespace Go.Proofs
open Go.Shelf
def Tryz.mul64_ren:Go.Shelf.Ren:=⟨fun|264=>72|n=>n,fun|46=>210|53=>131|n=>n,λn=>n⟩
theorem Tryz.mul64:Go.Proofs.Lays.n264 Tryz.prog Tryz.mul64_ren:={
 mixed:=by kernel_rfl
 f264:=Tryz.func72.trans (congrArg some (by kernel_rfl))
 t46:=Tryz.underlying210
 a46:=Tryz.isAgg210
 z46:=Tryz.sizeOf210
 v46:=Tryz.zeroValue210
 t53:=Tryz.underlying131
 a53:=Tryz.isAgg131
 z53:=Tryz.sizeOf131
 v53:=Tryz.zeroValue131 }
def Tryz.cmpI_ren:Go.Shelf.Ren:=⟨fun|20=>105|n=>n,fun|0=>0|3=>3|4=>4|22=>44|n=>n,λn=>n⟩
theorem Tryz.cmpI:Go.Proofs.Lays2.n20 Tryz.prog Tryz.cmpI_ren:={
 mixed:=by kernel_rfl
 f20:=Tryz.func105.trans (congrArg some (by kernel_rfl))
 t0:=Tryz.underlying0
 a0:=Tryz.isAgg0
 z0:=Tryz.sizeOf0
 v0:=Tryz.zeroValue0
 t3:=Tryz.underlying3
 a3:=Tryz.isAgg3
 z3:=Tryz.sizeOf3
 v3:=Tryz.zeroValue3
 t4:=Tryz.underlying4
 a4:=Tryz.isAgg4
 z4:=Tryz.sizeOf4
 v4:=Tryz.zeroValue4
 t22:=Tryz.underlying44
 a22:=Tryz.isAgg44
 z22:=Tryz.sizeOf44
 v22:=Tryz.zeroValue44
 i3:=by kernel_rfl }
def Tryz.add64_ren:Go.Shelf.Ren:=⟨fun|25=>73|n=>n,fun|22=>131|n=>n,λn=>n⟩
theorem Tryz.add64:Go.Proofs.Lays7.n25 Tryz.prog Tryz.add64_ren:={
 mixed:=by kernel_rfl
 f25:=Tryz.func73.trans (congrArg some (by kernel_rfl))
 t22:=Tryz.underlying131
 a22:=Tryz.isAgg131
 z22:=Tryz.sizeOf131
 v22:=Tryz.zeroValue131
 i22:=by kernel_rfl }
def Tryz.sub64_ren:Go.Shelf.Ren:=⟨fun|26=>76|n=>n,fun|22=>131|n=>n,λn=>n⟩
theorem Tryz.sub64:Go.Proofs.Lays7.n26 Tryz.prog Tryz.sub64_ren:={
 mixed:=by kernel_rfl
 f26:=Tryz.func76.trans (congrArg some (by kernel_rfl))
 t22:=Tryz.underlying131
 a22:=Tryz.isAgg131
 z22:=Tryz.sizeOf131
 v22:=Tryz.zeroValue131
 i22:=by kernel_rfl }
end Go.Proofs
