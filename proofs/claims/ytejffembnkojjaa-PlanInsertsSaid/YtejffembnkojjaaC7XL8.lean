/- Chapter 6, plain laws, part 8: what is meant by numbers (radars, jobs, rounds of the laws outright). -/
import Derived.Test.YtejffembnkojjaaC7XL3
import Derived.Test.YtejffembnkojjaaC7PlanU
namespace Go.Proofs.Ytejffembnkojjaa
open Go Go.Eng Go.Plan
set_option linter.unusedVariables false
set_option linter.unusedSimpArgs false
set_option maxRecDepth 10000
theorem slackD_get' {r : RadarD} {l : List JobD} {s : List Int} (hs : okS l.length s) {j : Nat} (hj : j < l.length) : (slackD r l s).getD j 0 = (l.getD j default).every - gapD r l s j := by
  rw [slackD, slack2_get, if_pos ⟨hj, by rw [gapsD_len]; exact hj⟩, gapsD_get r l s l.length hs j hj]
theorem slackD_len' (r : RadarD) (l : List JobD) (s : List Int) : (slackD r l s).length = l.length := by rw [slackD, slack2_len, gapsD_len]
end Go.Proofs.Ytejffembnkojjaa
