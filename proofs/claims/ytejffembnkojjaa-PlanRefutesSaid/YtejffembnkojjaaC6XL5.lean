/- Chapter 6, plain laws, part 5: what is done at a time; the law PlanJudges. -/
import Derived.Test.YtejffembnkojjaaC6XL4
namespace Go.Proofs.Ytejffembnkojjaa
open Go Go.Eng Go.Plan
set_option linter.unusedVariables false
set_option linter.unusedSimpArgs false
set_option maxRecDepth 10000
/-- The place of a number in a rising list. -/
structure Low (a : List Int) (t : Int) (i : Nat) : Prop where
  le : i ≤ a.length
  lt : ∀ k, k < i → a.getD k 0 < t
  ge : ∀ k, i ≤ k → k < a.length → t ≤ a.getD k 0
theorem _root_.Go.Plan.At.low {a : List Int} {t : Int} {e : Nat} (h : At a t e) (hr : ∀ i k, i < k → k < a.length → a.getD i 0 < a.getD k 0) : Low a t (if a.getD e 0 = t then e else e + 1) := by
  have hl := h.lt
  have hle := h.le
  split
  · rename_i he
    exact ⟨by omega, fun k hk => by have := hr k e hk hl; omega, fun k hk hk2 => by
      rcases Nat.lt_or_eq_of_le hk with h2 | h2
      · have := h.gt k h2 hk2; omega
      · subst h2; omega⟩
  · rename_i he
    exact ⟨by omega, fun k hk => by
      rcases Nat.lt_or_ge k e with h2 | h2
      · have := hr k e h2 hl; omega
      · have : k = e := by omega
        subst this; omega, fun k hk hk2 => by have := h.gt k (by omega) hk2; omega⟩
/-! ### The law -/
theorem jobs_loop {l : List ref06_Job} (h : l.length ≤ 1000000) : ∀ n k : Nat, k ≤ l.length → l.length < n + k → law06_jobs_L2 l n ((l.take k).map law06_job) (k : Int) = some (l.map law06_job) := by
  intro n
  induction n with
  | zero => intro k h1 h2; omega
  | succ n ih =>
    intro k hk0 hk
    simp only [law06_jobs_L2, law06_jobs_B2, law06_jobs_K1]
    by_cases hc : k < l.length
    · rw [bifT (by simp; omega), getb default (by omega), Int.toNat_natCast]
      rw [apdb (by simp; omega), ckb (by omega), show (k : Int) + 1 = ((k + 1 : Nat) : Int) by omega]
      have := ih (k + 1) (by omega) (by omega)
      rw [← map_take_snoc (d := default) hc] at this
      exact this
    · rw [bifF (by simp; omega), List.take_of_length_le (by omega)]
theorem jobs_eq {F : Nat} {l : List ref06_Job} (h : l.length < F) (h2 : l.length ≤ 1000000) : law06_jobs F l = some (l.map law06_job) := jobs_loop h2 F 0 (by omega) (by omega)
theorem dj_jobs (l : List ref06_Job) : dj (l.map law06_job) = ej l := by simp [dj, ej, pj_job, Function.comp_def]
theorem numbers_loop {a : List Int} (h : a.length ≤ 1000000) : ∀ n k : Nat, k ≤ a.length → a.length < n + k → law06_numbers_L2 a a n (k : Int) = some true := by
  intro n
  induction n with
  | zero => intro k h1 h2; omega
  | succ n ih =>
    intro k hk0 hk
    simp only [law06_numbers_L2, law06_numbers_B2, law06_numbers_K1]
    by_cases hc : k < a.length
    · rw [bifT (by simp; omega), getb 0 (by omega), getb 0 (by omega), bifF (by simp), ckb (by omega), show (k : Int) + 1 = ((k + 1 : Nat) : Int) by omega]
      exact ih (k + 1) (by omega) (by omega)
    · rw [bifF (by simp; omega)]
theorem numbers_self {F : Nat} {a : List Int} (h : a.length < F) (h2 : a.length ≤ 1000000) : law06_numbers F a a = some true := by
  rw [law06_numbers, bifF (by simp)]
  exact numbers_loop h2 F 0 (by omega) (by omega)
theorem works_at {F : Nat} (hF : 60 ≤ F) : law06_works F = some true := by rw [show F = (F - 60) + 60 by omega]; exact works_eval _
end Go.Proofs.Ytejffembnkojjaa
