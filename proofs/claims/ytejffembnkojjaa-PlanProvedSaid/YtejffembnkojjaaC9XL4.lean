/- Chapter 6, plain laws, part 4: the document's judging; what is done at a time; the law PlanJudges. -/
import Derived.Test.YtejffembnkojjaaC9XL3
import Derived.Test.YtejffembnkojjaaC9PlanQ
namespace Go.Proofs.Ytejffembnkojjaa
open Go Go.Eng Go.Plan
set_option linter.unusedVariables false
set_option linter.unusedSimpArgs false
set_option maxRecDepth 10000
/-! ### The document's gap -/
theorem slackD_get {r : RadarD} {l : List JobD} {s : List Int} (hs : okS l.length s) {j : Nat} (hj : j < l.length) : (slackD r l s).getD j 0 = (l.getD j default).every - gapD r l s j := by
  rw [slackD, slack2_get, if_pos ⟨hj, by rw [gapsD_len]; exact hj⟩, gapsD_get r l s l.length hs j hj]
theorem slackD_len (r : RadarD) (l : List JobD) (s : List Int) : (slackD r l s).length = l.length := by rw [slackD, slack2_len, gapsD_len]
end Go.Proofs.Ytejffembnkojjaa
