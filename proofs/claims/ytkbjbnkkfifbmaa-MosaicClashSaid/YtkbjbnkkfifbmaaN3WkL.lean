import Derived.Shelf.SlLaysF0
import Derived.Test.YtkbjbnkkfifbmaaProg
set_option linter.unusedVariables false
set_option linter.unusedSimpArgs false
set_option linter.unusedSectionVars false
namespace Go.Proofs
open Go.Shelf
def Try.pdqSp_ren:Go.Shelf.Ren:=⟨fun|14=>80|20=>86|21=>87|22=>88|23=>89|24=>90|25=>91|26=>92|27=>93|46=>97|47=>98|48=>99|49=>100|50=>101|15=>81|57=>102|28=>94|29=>95|n=>n,fun|24=>46|22=>44|3=>3|25=>121|4=>4|0=>0|46=>166|45=>165|50=>81|66=>176|39=>116|55=>174|70=>180|76=>182|77=>183|53=>172|5=>5|9=>9|n=>n,fun|n=>n⟩
theorem Try.pdqSp:Go.Proofs.SlLaysF0.n14 Try.prog Try.pdqSp_ren:={
 mixed:=by kernel_rfl
 f14:=⟨Try.f80.name,by decide,Try.func80.trans (congrArg some (by kernel_rfl))⟩
 f15:=Try.func81.trans (congrArg some (by kernel_rfl))
 f20:=⟨Try.f86.name,by decide,Try.func86.trans (congrArg some (by kernel_rfl))⟩
 f21:=⟨Try.f87.name,by decide,Try.func87.trans (congrArg some (by kernel_rfl))⟩
 f22:=⟨Try.f88.name,by decide,Try.func88.trans (congrArg some (by kernel_rfl))⟩
 f23:=⟨Try.f89.name,by decide,Try.func89.trans (congrArg some (by kernel_rfl))⟩
 f24:=⟨Try.f90.name,by decide,Try.func90.trans (congrArg some (by kernel_rfl))⟩
 f25:=⟨Try.f91.name,by decide,Try.func91.trans (congrArg some (by kernel_rfl))⟩
 f26:=⟨Try.f92.name,by decide,Try.func92.trans (congrArg some (by kernel_rfl))⟩
 f27:=⟨Try.f93.name,by decide,Try.func93.trans (congrArg some (by kernel_rfl))⟩
 f28:=Try.func94.trans (congrArg some (by kernel_rfl))
 f29:=Try.func95.trans (congrArg some (by kernel_rfl))
 f46:=⟨Try.f97.name,by decide,Try.func97.trans (congrArg some (by kernel_rfl))⟩
 f47:=Try.func98.trans (congrArg some (by kernel_rfl))
 f48:=Try.func99.trans (congrArg some (by kernel_rfl))
 f49:=⟨Try.f100.name,by decide,Try.func100.trans (congrArg some (by kernel_rfl))⟩
 f50:=⟨Try.f101.name,by decide,Try.func101.trans (congrArg some (by kernel_rfl))⟩
 f57:=⟨Try.f102.name,by decide,Try.func102.trans (congrArg some (by kernel_rfl))⟩
 t0:=Try.underlying0
 a0:=Try.isAgg0
 z0:=Try.sizeOf0
 v0:=Try.zeroValue0
 t3:=Try.underlying3
 a3:=Try.isAgg3
 z3:=Try.sizeOf3
 v3:=Try.zeroValue3
 t4:=Try.underlying4
 a4:=Try.isAgg4
 z4:=Try.sizeOf4
 v4:=Try.zeroValue4
 t5:=Try.underlying5
 a5:=Try.isAgg5
 z5:=Try.sizeOf5
 v5:=Try.zeroValue5
 t9:=Try.underlying9
 a9:=Try.isAgg9
 z9:=Try.sizeOf9
 v9:=Try.zeroValue9
 t22:=Try.underlying44
 a22:=Try.isAgg44
 z22:=Try.sizeOf44
 v22:=Try.zeroValue44
 t25:=Try.underlying121
 a25:=Try.isAgg121
 z25:=Try.sizeOf121
 v25:=Try.zeroValue121
 t39:=Try.underlying116
 a39:=Try.isAgg116
 z39:=Try.sizeOf116
 v39:=Try.zeroValue116
 t45:=Try.underlying165
 a45:=Try.isAgg165
 z45:=Try.sizeOf165
 v45:=Try.zeroValue165
 t46:=Try.underlying166
 a46:=Try.isAgg166
 z46:=Try.sizeOf166
 v46:=Try.zeroValue166
 t50:=Try.underlying81
 a50:=Try.isAgg81
 z50:=Try.sizeOf81
 v50:=Try.zeroValue81
 t53:=Try.underlying172
 a53:=Try.isAgg172
 z53:=Try.sizeOf172
 v53:=Try.zeroValue172
 t55:=Try.underlying174
 a55:=Try.isAgg174
 z55:=Try.sizeOf174
 v55:=Try.zeroValue174
 t66:=Try.underlying176
 a66:=Try.isAgg176
 z66:=Try.sizeOf176
 v66:=Try.zeroValue176
 t70:=Try.underlying180
 a70:=Try.isAgg180
 z70:=Try.sizeOf180
 v70:=Try.zeroValue180
 t76:=Try.underlying182
 a76:=Try.isAgg182
 z76:=Try.sizeOf182
 v76:=Try.zeroValue182
 t77:=Try.underlying183
 a77:=Try.isAgg183
 z77:=Try.sizeOf183
 v77:=Try.zeroValue183 }
end Go.Proofs
