import Derived.Test.YtkbjbnkkfifbmaaGreatM6XD
import Derived.Test.YtkbjbnkkfifbmaaGreatProg
import Derived.OpenShut
import Derived.ChangeArms
namespace Go.Proofs.YtkbjbnkkfifbmaaGreat
open Go Go.RowKit Go.Eng
set_option linter.unusedVariables false
end Go.Proofs.YtkbjbnkkfifbmaaGreat
