import Derived.Test.YtfkeddejdahnhaaGreatDoorQ3EB
import Derived.Test.YtfkeddejdahnhaaGreatDoorProg
import Derived.Lib.ItoaMem
set_option linter.unusedVariables false
set_option linter.unusedSimpArgs false
set_option linter.unusedSectionVars false
namespace Go.Proofs.YtfkeddejdahnhaaGreatDoor
open Go Go.RowKit Go.Eng
abbrev GlM (μ:Frz):Prop:=TabM Tryz.prog "internal/strconv.uint64pow10" .u64 Lib.pow10Tab μ
theorem GlM.mono {μ ν:Frz} (h:GlM μ) (hle:μ.le ν):GlM ν:=TabM.mono h hle
end Go.Proofs.YtfkeddejdahnhaaGreatDoor
