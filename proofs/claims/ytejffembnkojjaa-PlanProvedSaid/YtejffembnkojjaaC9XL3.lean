/- Chapter 6, plain laws, part 3: judging, on the plain programs of both sides. -/
import Derived.Test.YtejffembnkojjaaC9XL2
namespace Go.Proofs.Ytejffembnkojjaa
open Go Go.Eng Go.Plan
set_option linter.unusedVariables false
set_option linter.unusedSimpArgs false
set_option maxRecDepth 10000
/-! ### The program's judging -/
def nilLine : plan_line := ⟨none, [], [], 0⟩
def judgedR (r : plan_Radar) (l : List plan_Job) (s : List Int) : plan_line × List Int × Int :=
  if judgeE (pr r) (dj l) s = 0 then (lineP r l s, slackD (pr r) (dj l) s, 0) else (nilLine, [], judgeE (pr r) (dj l) s)
theorem every_get {l : List plan_Job} {q : Nat} (h : q < l.length) : (l.getD q default).Every = ((dj l).getD q default).every := by
  rw [← getD_map_pj h default]; rfl
theorem slack_loop {r : plan_Radar} {l : List plan_Job} (h : OkL r l) {s : List Int} (hs : okS l.length s) (h1 : 1 ≤ s.length) (h60 : s.length ≤ 60) :
    ∀ n q : Nat, q ≤ l.length → l.length < n + q → (∀ i, i < q → (gapsD (pr r) (dj l) s l.length).getD i 0 ≠ 0) →
    plan_judged_L3 l (lineP r l s) n (slack2 (dj l) (gapsD (pr r) (dj l) s l.length) q) (l.length : Int) (q : Int) =
      some (if (gapsD (pr r) (dj l) s l.length).contains 0 then (nilLine, [], 23) else (lineP r l s, slackD (pr r) (dj l) s, 0)) := by
  have hs' : okS (dj l).length s := by simpa using hs
  have h6 := h.h6
  have hgl := gapsD_len (pr r) (dj l) s l.length
  have hbd := fun i => (gap2_bd h.hr h.okJ hs' h1 h60 l.length s.length).1 i
  intro n
  induction n with
  | zero => intro q h1 h2; omega
  | succ n ih =>
    intro q hq0 hq hne
    simp only [plan_judged_L3, plan_judged_B3, plan_judged_K2]
    have hsl := slack2_len (dj l) (gapsD (pr r) (dj l) s l.length) q
    have hg := slack2_get (dj l) (gapsD (pr r) (dj l) s l.length) q q
    rw [if_neg (by omega)] at hg
    by_cases hc : q < l.length
    · have hb := hbd q
      have hev := (jobErr_ok (h.get hc)).2.2.1
      rw [bifT (by simp; omega), getb 0 (by omega), Int.toNat_natCast, hg]
      by_cases hz : (gapsD (pr r) (dj l) s l.length).getD q 0 = 0
      · rw [bifT (by rw [hz]; rfl), if_pos (contains_get (by omega) hz)]; rfl
      · have hzz : ((gapsD (pr r) (dj l) s l.length).getD q 0 == 0) = false := by simpa using hz
        simp only [pj] at hev
        change 0 ≤ (gapsD (pr r) (dj l) s l.length).getD q 0 ∧ (gapsD (pr r) (dj l) s l.length).getD q 0 ≤ 800000000000 at hb
        rw [bifF hzz, getb default (by omega), getb 0 (by omega), Int.toNat_natCast, hg, ckb (by omega), getb 0 (by omega), setb (by omega), ckb (by omega), Int.toNat_natCast, show (q : Int) + 1 = ((q + 1 : Nat) : Int) by omega]
        have := ih (q + 1) (by omega) (by omega) (fun i hi => by
          by_cases hiq : i = q
          · subst hiq; exact hz
          · exact hne i (by omega))
        rw [slack2, hg, ← every_get hc] at this
        exact this
    · have hq' : q = l.length := by omega
      subst hq'
      rw [bifF (by simp), if_neg (by rw [not_contains (fun i hi => hne i (by omega))]; simp), slackD, djl]
theorem judged_loop {F : Nat} (hF : 20 ≤ F) {r : plan_Radar} {l : List plan_Job} (h : OkL r l) {s : List Int} (h1 : 1 ≤ s.length) (h12 : s.length ≤ 12) :
    ∀ n k : Nat, k ≤ s.length → s.length < n + k → (∀ i, i < k → inB (s.getD i 0) 0 ((l.length : Int) - 1) = true) →
    plan_judged_L4 F r l s n (k : Int) = some (if inS l.length s then (if (gapsD (pr r) (dj l) s l.length).contains 0 then (nilLine, [], 23) else (lineP r l s, slackD (pr r) (dj l) s, 0)) else (nilLine, [], 4)) := by
  have h6 := h.h6
  intro n
  induction n with
  | zero => intro k h1 h2; omega
  | succ n ih =>
    intro k hk0 hk hne
    simp only [plan_judged_L4, plan_judged_B4, plan_judged_K1]
    by_cases hc : k < s.length
    · rw [bifT (by simp; omega), getb 0 (by omega), Int.toNat_natCast, ckb (by omega), pin]
      by_cases hin : inB (s.getD k 0) 0 ((l.length : Int) - 1) = true
      · rw [bifF (by rw [hin]; rfl), ckb (by omega), show (k : Int) + 1 = ((k + 1 : Nat) : Int) by omega]
        exact ih (k + 1) (by omega) (by omega) (fun i hi => by
          by_cases hik : i = k
          · subst hik; exact hin
          · exact hne i (by omega))
      · have hin' : inB (s.getD k 0) 0 ((l.length : Int) - 1) = false := by simpa using hin
        rw [bifT (by rw [hin']; rfl), if_neg (by rw [inS_bad hc hin']; simp)]; rfl
    · have hs : okS l.length s := fun i hi => by
        have := inB_iff.1 (hne i (by omega)); omega
      rw [bifF (by simp; omega), newDesk_eq (by omega) h, Option.bind_some, of_eq h hs (by omega) (by omega), Option.bind_some, gaps_eq h hs h1 (by omega) (by omega), Option.bind_some, gapsD_len, if_pos (inS_iff.2 hs)]
      exact slack_loop h hs h1 (by omega) F 0 (by omega) (by omega) (fun i hi => by omega)
theorem judged_eq {F : Nat} (hF : 20 ≤ F) (r : plan_Radar) (l : List plan_Job) (s : List Int) : plan_judged F r l s = some (judgedR r l s) := by
  rw [plan_judged, plan_Check_eq (by omega), Option.bind_some, pin]
  unfold judgedR judgeE
  by_cases hc : checkE (pr r) (dj l) = 0
  · have h := OkL.of hc
    rw [bifF (by simp [hc]), if_pos hc]
    by_cases hl : inB (s.length : Int) 1 12 = true
    · have hl' := inB_iff.1 hl
      have := judged_loop hF h (s := s) (by omega) (by omega) F 0 (by omega) (by omega) (fun i hi => by omega)
      replace this : plan_judged_L4 F r l s F 0 = _ := this
      rw [bifF (by simp [hl]), this, if_pos hl]
      simp only [djl]
      by_cases hs : inS l.length s = true
      · rw [if_pos hs, if_pos hs]
        by_cases hg : (gapsD (pr r) (dj l) s l.length).contains 0 = true
        · simp only [if_pos hg]; rfl
        · simp only [if_neg hg]; rfl
      · simp only [if_neg hs]; rfl
    · rw [bifT (by simp [hl])]
      simp only [if_neg hl]; rfl
  · rw [bifT (by simp [hc])]
    simp only [if_neg hc]; rfl
theorem Judge_eq {F : Nat} (hF : 20 ≤ F) (r : plan_Radar) (l : List plan_Job) (s : List Int) : plan_Judge F r l s = some (judgeL (pr r) (dj l) s, judgeE (pr r) (dj l) s) := by
  rw [plan_Judge, judged_eq hF, Option.bind_some]
  unfold judgedR judgeL
  by_cases h : judgeE (pr r) (dj l) s = 0
  · simp only [if_pos h]; rw [h]
  · simp only [if_neg h]
/-! ### The document's -/
abbrev ej (l : List ref06_Job) : List JobD := l.map rj
structure OkR (r : ref06_Radar) (l : List ref06_Job) : Prop where
  hr : radarOk (rr r) = true
  hl : ∀ j ∈ l, jobErr (rj j) = 0
  h1 : 1 ≤ l.length
  h6 : l.length ≤ 7
theorem OkR.get {r : ref06_Radar} {l : List ref06_Job} (h : OkR r l) {k : Nat} (hk : k < l.length) : jobErr (rj (l.getD k default)) = 0 := by
  rw [List.getD_eq_getElem?_getD, List.getElem?_eq_getElem hk]; exact h.hl _ (List.getElem_mem hk)
theorem OkR.okJ {r : ref06_Radar} {l : List ref06_Job} (h : OkR r l) : okJ (ej l) := by
  intro i hi
  rw [List.length_map] at hi
  rw [← getD_map_rj hi default]; exact h.get hi
theorem OkR.of {r : ref06_Radar} {l : List ref06_Job} (h : checkE (rr r) (ej l) = 0) : OkR r l := by
  obtain ⟨h1, h2, h3⟩ := checkE_ok h
  rw [List.length_map] at h2
  exact ⟨h1, fun j hj => firstErr_all h3 _ (List.mem_map_of_mem hj), h2.1, by omega⟩
end Go.Proofs.Ytejffembnkojjaa
