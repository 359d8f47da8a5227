import Derived.Test.YtkbjbnkkfifbmaaGreatM6XD
namespace Go.Proofs.YtkbjbnkkfifbmaaGreat
open Go Go.RowKit Go.Eng
set_option maxRecDepth 100000
theorem Lu:Dh 2000=some true:=by kernel_rfl
end Go.Proofs.YtkbjbnkkfifbmaaGreat
