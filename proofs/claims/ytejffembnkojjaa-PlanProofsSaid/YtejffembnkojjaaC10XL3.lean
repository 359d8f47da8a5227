/- Chapter 6, plain laws, part 3: judging, on the plain programs of both sides. -/
import Derived.Test.YtejffembnkojjaaC10XL2
namespace Go.Proofs.Ytejffembnkojjaa
open Go Go.Eng Go.Plan
set_option linter.unusedVariables false
set_option linter.unusedSimpArgs false
set_option maxRecDepth 10000
/-! ### The program's judging -/
theorem every_get {l : List plan_Job} {q : Nat} (h : q < l.length) : (l.getD q default).Every = ((dj l).getD q default).every := by
  rw [← getD_map_pj h default]; rfl
/-! ### The document's -/
abbrev ej (l : List ref06_Job) : List JobD := l.map rj
structure OkR (r : ref06_Radar) (l : List ref06_Job) : Prop where
  hr : radarOk (rr r) = true
  hl : ∀ j ∈ l, jobErr (rj j) = 0
  h1 : 1 ≤ l.length
  h6 : l.length ≤ 7
theorem OkR.get {r : ref06_Radar} {l : List ref06_Job} (h : OkR r l) {k : Nat} (hk : k < l.length) : jobErr (rj (l.getD k default)) = 0 := by
  rw [List.getD_eq_getElem?_getD, List.getElem?_eq_getElem hk]; exact h.hl _ (List.getElem_mem hk)
theorem OkR.okJ {r : ref06_Radar} {l : List ref06_Job} (h : OkR r l) : okJ (ej l) := by
  intro i hi
  rw [List.length_map] at hi
  rw [← getD_map_rj hi default]; exact h.get hi
theorem OkR.of {r : ref06_Radar} {l : List ref06_Job} (h : checkE (rr r) (ej l) = 0) : OkR r l := by
  obtain ⟨h1, h2, h3⟩ := checkE_ok h
  rw [List.length_map] at h2
  exact ⟨h1, fun j hj => firstErr_all h3 _ (List.mem_map_of_mem hj), h2.1, by omega⟩
end Go.Proofs.Ytejffembnkojjaa
