import Derived.Test.YtkjnafecmjakcaaGreatDoorS10EB
import Derived.Test.YtkjnafecmjakcaaGreatDoorProg
import Derived.Lib.ItoaMem
namespace Go.Proofs.YtkjnafecmjakcaaGreatDoor
open Go Go.RowKit Go.Eng
abbrev GlM (μ:Frz):Prop:=TabM Tryz.prog "internal/strconv.uint64pow10" .u64 Lib.pow10Tab μ
theorem GlM.mono {μ ν:Frz} (h:GlM μ) (hle:μ.le ν):GlM ν:=TabM.mono h hle
end Go.Proofs.YtkjnafecmjakcaaGreatDoor
