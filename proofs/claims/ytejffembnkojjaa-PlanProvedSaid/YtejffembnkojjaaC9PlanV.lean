/- The plain side of chapter 6, part 8: rounds that are turned or repeated. -/
import Derived.Test.YtejffembnkojjaaC9PlanU
namespace Go.Plan
set_option linter.unusedVariables false
set_option linter.unusedSimpArgs false
theorem app_at (r : RadarD) (l : List JobD) (s : List Int) : ∀ t : List Int, t ≠ [] → atD r l (s ++ t) = atD r l s ++ (atD r l t).map (· + startD r l s (t.getD 0 0)) ∧ ∀ j, startD r l (s ++ t) j = startD r l t j + startD r l s (t.getD 0 0) := by
  refine snoc_ind (fun h => absurd rfl h) ?_
  intro u x ih _
  by_cases hu : u = []
  · subst hu
    simp only [List.nil_append]
    have e0 : ([x] : List Int).getD 0 0 = x := rfl
    have e1 : atD r l [x] = [0] := by have := atD_snoc r l [] x; simpa [startD] using this
    refine ⟨by rw [atD_snoc, e0, e1]; simp, fun j => ?_⟩
    have := startD_snoc r l [] x j
    rw [List.nil_append] at this
    rw [startD_snoc, this, e0]
    have : startD r l [] x = 0 := by simp [startD]
    omega
  · obtain ⟨i1, i2⟩ := ih hu
    have h0 : (u ++ [x]).getD 0 0 = u.getD 0 0 := by
      cases u with
      | nil => exact absurd rfl hu
      | cons a u => rfl
    rw [h0, ← List.append_assoc]
    refine ⟨by rw [atD_snoc, i1, atD_snoc, List.map_append, i2]; simp, fun j => ?_⟩
    rw [startD_snoc, startD_snoc, i2]
    omega
/-! ### Gaps of lists of beginnings -/
theorem dmax_pos {m a : Int} {l : List Int} (hm : 0 ≤ m) : dmax m a l = mx m (dmax 0 a l) := by
  rw [← dmax_mx]
  congr 1
  unfold mx; split <;> omega
theorem gapJ_cons (al x : Int) (l : List Int) : gapJ al (x :: l) = mx (x + al - lastO x l) (dmax 0 x l) := by
  show dmax (mx 0 (x - (lastO x l - al))) x l = _
  rw [show x - (lastO x l - al) = x + al - lastO x l by omega, mx_comm, dmax_mx]
/-! ### Repeated rounds -/
def rp (s : List Int) : Nat → List Int
  | 0 => []
  | c + 1 => rp s c ++ s
theorem rp_len (s : List Int) : ∀ c, (rp s c).length = c * s.length
  | 0 => by simp [rp]
  | c + 1 => by rw [rp, List.length_append, rp_len s c, Nat.succ_mul]
theorem rp_ok {n : Nat} {s : List Int} (hs : okS n s) : ∀ c, okS n (rp s c)
  | 0 => okS_nil n
  | c + 1 => okS_mem.2 fun x hx => by
    rcases List.mem_append.1 hx with h | h
    · exact okS_mem.1 (rp_ok hs c) x h
    · exact okS_mem.1 hs x h
theorem rp_start (r : RadarD) (l : List JobD) {s : List Int} (hs : s ≠ []) : ∀ c, startD r l (rp s c) (s.getD 0 0) = c * allD r l s
  | 0 => by simp [rp, startD]
  | c + 1 => by
    rw [rp, (app_at r l (rp s c) s hs).2, rp_start r l hs c]
    unfold allD
    rw [show ((c + 1 : Nat) : Int) = (c : Int) + 1 by omega, Int.add_mul, Int.one_mul]
    omega
theorem rp_at (r : RadarD) (l : List JobD) {s : List Int} (hs : s ≠ []) (c : Nat) : atD r l (rp s (c + 1)) = atD r l (rp s c) ++ (atD r l s).map (· + c * allD r l s) := by
  rw [rp, (app_at r l (rp s c) s hs).1, rp_start r l hs]
def rpO (al : Int) (o : List Int) : Nat → List Int
  | 0 => []
  | c + 1 => rpO al o c ++ o.map (· + c * al)
theorem rp_occ (r : RadarD) (l : List JobD) {s : List Int} (hs : s ≠ []) (j : Int) : ∀ c, occ j (rp s c) (atD r l (rp s c)) = rpO (allD r l s) (occ j s (atD r l s)) c
  | 0 => by simp [rp, rpO, occ]
  | c + 1 => by
    rw [rp_at r l hs c, rp, occ_append j _ _ _ _ (atD_len r l _).symm, rp_occ r l hs j c, occ_map]; rfl
theorem rpO_last (al x : Int) (o : List Int) : ∀ c, ∃ y R, rpO al (x :: o) (c + 1) = y :: R ∧ lastO y R = lastO x o + c * al
  | 0 => ⟨x + (0 : Nat) * al, o.map (· + (0 : Nat) * al), by simp [rpO], by rw [lastO_map]⟩
  | c + 1 => by
    obtain ⟨y, R, h1, h2⟩ := rpO_last al x o c
    refine ⟨y, R ++ (x :: o).map (· + ((c + 1 : Nat) : Int) * al), by rw [rpO, h1]; rfl, ?_⟩
    rw [lastO_append]
    show lastO (x + ((c + 1 : Nat) : Int) * al) (o.map (· + ((c + 1 : Nat) : Int) * al)) = _
    rw [lastO_map]
theorem gap2J_rp (al : Int) (o : List Int) : ∀ c, gap2J (rpO al o (c + 2)) = gapJ al o
  | 0 => by
    have := gap2J_eq al o
    rw [← this]
    simp [rpO]
  | c + 1 => by
    have ih := gap2J_rp al o c
    cases o with
    | nil =>
      have : ∀ c, rpO al [] c = [] := by
        intro c
        induction c with
        | zero => rfl
        | succ c ih => rw [rpO, ih]; rfl
      rw [this]; rfl
    | cons x l =>
      obtain ⟨y, R, h1, h2⟩ := rpO_last al x l (c + 1)
      rw [h1] at ih
      rw [rpO, h1]
      show dmax 0 y (R ++ _) = _
      have ih' : dmax 0 y R = gapJ al (x :: l) := ih
      rw [dmax_append, ih', h2]
      show dmax (mx (gapJ al (x :: l)) (x + ((c + 2 : Nat) : Int) * al - (lastO x l + ((c + 1 : Nat) : Int) * al))) (x + ((c + 2 : Nat) : Int) * al) (l.map (· + ((c + 2 : Nat) : Int) * al)) = _
      have e : x + ((c + 2 : Nat) : Int) * al - (lastO x l + ((c + 1 : Nat) : Int) * al) = x + al - lastO x l := by
        rw [show ((c + 2 : Nat) : Int) = ((c + 1 : Nat) : Int) + 1 by omega, Int.add_mul, Int.one_mul]; omega
      rw [e, dmax_map]
      have g := gapJ_cons al x l
      have d := dmax_ge 0 x l
      have m1 := mx_spec (x + al - lastO x l) (dmax 0 x l)
      have m2 := mx_spec (gapJ al (x :: l)) (x + al - lastO x l)
      rw [dmax_pos (show 0 ≤ mx (gapJ al (x :: l)) (x + al - lastO x l) by omega)]
      have m3 := mx_spec (mx (gapJ al (x :: l)) (x + al - lastO x l)) (dmax 0 x l)
      omega
/-- How long a job waits in a round that is repeated. -/
theorem wait_rp {r : RadarD} {l : List JobD} {s : List Int} (hs : s ≠ []) (c : Nat) (j : Int) : gap2J (occ j (rp s (c + 2)) (atD r l (rp s (c + 2)))) = gapD r l s j := by
  rw [rp_occ r l hs, gap2J_rp]; rfl
end Go.Plan
