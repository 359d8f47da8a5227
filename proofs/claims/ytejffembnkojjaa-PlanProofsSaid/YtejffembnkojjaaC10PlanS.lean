/- The plain side of chapter 6, part 5: a job that is late behind a beginning is late in each round. -/
import Derived.Test.YtejffembnkojjaaC10PlanQ
namespace Go.Plan
set_option linter.unusedVariables false
set_option linter.unusedSimpArgs false
/-! ### Occurrences -/
/-- Whether a job is late behind a sequence. -/
def lateD (r : RadarD) (l : List JobD) (s : List Int) (j : Int) : Bool :=
  match occ j s (atD r l s) with
  | [] => decide (startD r l s j + tk r l j + mv r l j (s.getD 0 0) > (l.getD j.toNat default).every)
  | x :: o => decide (startD r l s j - lastO x o > (l.getD j.toNat default).every)
end Go.Plan
