/- Chapter 6, plain laws, part 7: the document's sequences and best round; the law PlanBests. -/
import Derived.Test.YtejffembnkojjaaC9XL5
import Derived.Test.YtejffembnkojjaaC9XL6
namespace Go.Proofs.Ytejffembnkojjaa
open Go Go.Eng Go.Plan
set_option linter.unusedVariables false
set_option linter.unusedSimpArgs false
set_option maxRecDepth 10000
/-! ### Sequences -/
/-! ### The document's rounds that are kept -/
theorem slack_all {r : RadarD} {l : List JobD} {s : List Int} (hs : okS l.length s) (h0 : (gapsD r l s l.length).contains 0 = false) : (slackD r l s).all (fun x => decide (0 ≤ x)) = keptB r l s := by
  have hsl := slackD_len r l s
  have hgl := gapsD_len r l s l.length
  have h1 : (slackD r l s).all (fun x => decide (0 ≤ x)) = true ↔ keptB r l s = true := by
    rw [List.all_eq_true, keptB_iff hs]
    constructor
    · intro h i hi
      have hne : gapD r l s i ≠ 0 := by
        intro e
        rw [← gapsD_get r l s l.length hs i hi] at e
        rw [contains_get (by omega) e] at h0
        exact absurd h0 (by simp)
      have hm : (slackD r l s).getD i 0 ∈ slackD r l s := by
        rw [List.getD_eq_getElem?_getD, List.getElem?_eq_getElem (by omega)]; exact List.getElem_mem _
      have := h _ hm
      rw [slackD_get hs hi] at this
      simp only [decide_eq_true_eq] at this
      exact ⟨hne, by omega⟩
    · intro h x hx
      obtain ⟨i, hi, rfl⟩ := List.mem_iff_getElem.1 hx
      have := h i (by omega)
      have e : (slackD r l s)[i] = (slackD r l s).getD i 0 := by rw [List.getD_eq_getElem?_getD, List.getElem?_eq_getElem hi]; rfl
      rw [e, slackD_get hs (by omega)]
      simp only [decide_eq_true_eq]; omega
  cases h2 : keptB r l s with
  | true => exact h1.2 h2
  | false =>
    cases h3 : (slackD r l s).all (fun x => decide (0 ≤ x)) with
    | true => rw [h1.1 h3] at h2; exact absurd h2 (by simp)
    | false => rfl
/-- Whether a round is kept, or is none. -/
def keptJ (r : RadarD) (l : List JobD) (s : List Int) : Bool := (judgeL r l s).all (fun x => decide (0 ≤ x)) && (judgeE r l s == 0)
theorem keptJ_eq {r : RadarD} {l : List JobD} {s : List Int} (hc : checkE r l = 0) (hs : okS l.length s) (h1 : 1 ≤ s.length) (h12 : s.length ≤ 12) : keptJ r l s = keptB r l s := by
  unfold keptJ judgeL judgeE
  rw [if_pos hc, if_pos (inB_iff.2 (by omega)), if_pos (inS_iff.2 hs)]
  by_cases h0 : (gapsD r l s l.length).contains 0 = true
  · rw [if_pos h0]
    have : keptB r l s = false := by
      cases h : keptB r l s with
      | false => rfl
      | true =>
        rw [List.contains_iff_mem] at h0
        obtain ⟨i, hi, he⟩ := List.mem_iff_getElem.1 h0
        rw [gapsD_len] at hi
        have := ((keptB_iff hs).1 h i hi).1
        rw [← gapsD_get r l s l.length hs i hi, List.getD_eq_getElem?_getD, List.getElem?_eq_getElem (by rw [gapsD_len]; exact hi)] at this
        exact absurd he this
    rw [this]; simp
  · have h0' : (gapsD r l s l.length).contains 0 = false := by simpa using h0
    rw [if_neg h0]
    simp only [if_true]
    rw [slack_all hs h0']; simp
/-! ### The law -/
end Go.Proofs.Ytejffembnkojjaa
