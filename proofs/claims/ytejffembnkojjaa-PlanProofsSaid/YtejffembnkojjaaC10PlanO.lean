/- The plain side of chapter 6, part 3: gaps by occurrences. -/
import Derived.Test.YtejffembnkojjaaC10PlanN
namespace Go.Plan
set_option linter.unusedVariables false
set_option linter.unusedSimpArgs false
/-- The places where a job begins. -/
def occ (j : Int) : List Int → List Int → List Int
  | x :: s, a :: l => if x = j then a :: occ j s l else occ j s l
  | _, _ => []
def lastO : Int → List Int → Int
  | a, [] => a
  | _, x :: l => lastO x l
theorem occ_snoc (j x a : Int) : ∀ (s l : List Int), s.length = l.length → occ j (s ++ [x]) (l ++ [a]) = occ j s l ++ if x = j then [a] else []
  | [], [], _ => by simp only [List.nil_append, occ]
  | [], _ :: _, h => by simp at h
  | _ :: _, [], h => by simp at h
  | y :: s, b :: l, h => by
    have := occ_snoc j x a s l (by simpa using h)
    simp only [List.cons_append, occ, this]
    split <;> simp
theorem lastO_snoc (y : Int) : ∀ (a : Int) (l : List Int), lastO a (l ++ [y]) = y
  | _, [] => rfl
  | _, x :: l => lastO_snoc y x l
/-! ### The arrays of the program -/
end Go.Plan
