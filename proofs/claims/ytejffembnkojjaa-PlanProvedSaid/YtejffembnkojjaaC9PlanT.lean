/- The plain side of chapter 6, part 6: sequences in order, with and without those that begin in vain. -/
import Derived.Test.YtejffembnkojjaaC9PlanS
namespace Go.Plan
set_option linter.unusedVariables false
set_option linter.unusedSimpArgs false
def seqs (n : Nat) : Nat → List (List Int)
  | 0 => [[]]
  | k + 1 => (List.range n).flatMap fun j : Nat => (seqs n k).map fun t => (j : Int) :: t
def ext (n : Nat) : Nat → List Int → List (List Int)
  | 0, p => [p]
  | k + 1, p => (List.range n).flatMap fun j : Nat => ext n k (p ++ [(j : Int)])
theorem ext_eq (n : Nat) : ∀ k p, ext n k p = (seqs n k).map (p ++ ·)
  | 0, p => by simp [ext, seqs]
  | k + 1, p => by
    simp only [ext, seqs, List.map_flatMap]
    congr 1
    funext j
    rw [ext_eq n k, List.map_map]
    congr 1
    funext t
    simp
theorem seqs_mem (n : Nat) : ∀ k t, t ∈ seqs n k → t.length = k ∧ okS n t
  | 0, t, h => by
    simp only [seqs, List.mem_singleton] at h
    subst h; exact ⟨rfl, okS_nil n⟩
  | k + 1, t, h => by
    simp only [seqs, List.mem_flatMap, List.mem_range, List.mem_map] at h
    obtain ⟨j, hj, u, hu, rfl⟩ := h
    obtain ⟨h1, h2⟩ := seqs_mem n k u hu
    refine ⟨by simp [h1], okS_mem.2 fun x hx => ?_⟩
    rcases List.mem_cons.1 hx with rfl | hx
    · omega
    · exact okS_mem.1 h2 x hx
theorem mem_seqs (n : Nat) : ∀ k t, t.length = k → okS n t → t ∈ seqs n k
  | 0, t, h, _ => by simp [seqs, List.length_eq_zero_iff.1 h]
  | k + 1, [], h, _ => by simp at h
  | k + 1, x :: t, h, hs => by
    have hx := okS_mem.1 hs x (by simp)
    have ht := mem_seqs n k t (by simpa using h) (okS_mem.2 fun y hy => okS_mem.1 hs y (by simp [hy]))
    simp only [seqs, List.mem_flatMap, List.mem_range, List.mem_map]
    exact ⟨x.toNat, by omega, t, ht, by rw [Int.toNat_of_nonneg hx.1]⟩
theorem ext_mem (n k : Nat) (p s : List Int) (h : s ∈ ext n k p) : ∃ t, s = p ++ t ∧ t.length = k ∧ okS n t := by
  rw [ext_eq] at h
  obtain ⟨t, ht, rfl⟩ := List.mem_map.1 h
  obtain ⟨h1, h2⟩ := seqs_mem n k t ht
  exact ⟨t, rfl, h1, h2⟩
/-- The sequences of k more jobs behind no beginning of which, short of the whole, a job is late. -/
def prn (n : Nat) (L : List Int → Bool) : Nat → List Int → List (List Int)
  | 0, _ => []
  | k + 1, p => (List.range n).flatMap fun j : Nat => if k = 0 then [p ++ [(j : Int)]] else bif L (p ++ [(j : Int)]) then [] else prn n L k (p ++ [(j : Int)])
theorem findSome?_congr' {α β : Type} {f g : α → Option β} : ∀ (l : List α), (∀ x ∈ l, f x = g x) → l.findSome? f = l.findSome? g
  | [], _ => rfl
  | a :: l, h => by
    rw [List.findSome?_cons, List.findSome?_cons, h a (by simp), findSome?_congr' l (fun x hx => h x (by simp [hx]))]
theorem prn_find (n : Nat) (L K : List Int → Bool) (H : ∀ p q, p ≠ [] → q ≠ [] → okS n (p ++ q) → L p = true → K (p ++ q) = false) : ∀ k p, okS n p → (prn n L (k + 1) p).find? K = (ext n (k + 1) p).find? K := by
  intro k
  induction k with
  | zero => intro p _; simp [prn, ext]
  | succ k ih =>
    intro p hp
    show ((List.range n).flatMap fun j : Nat => if k + 1 = 0 then [p ++ [(j : Int)]] else bif L (p ++ [(j : Int)]) then [] else prn n L (k + 1) (p ++ [(j : Int)])).find? K = ((List.range n).flatMap fun j : Nat => ext n (k + 1) (p ++ [(j : Int)])).find? K
    rw [List.find?_flatMap, List.find?_flatMap]
    refine findSome?_congr' _ fun j hj => ?_
    have hj' : j < n := List.mem_range.1 hj
    have hpj : okS n (p ++ [(j : Int)]) := okS_snoc hp (by omega)
    rw [if_neg (by omega)]
    cases hL : L (p ++ [(j : Int)]) with
    | false => exact ih _ hpj
    | true =>
      symm
      show _ = none
      rw [List.find?_eq_none]
      intro s hs
      obtain ⟨t, rfl, h1, h2⟩ := ext_mem _ _ _ _ hs
      rw [H (p ++ [(j : Int)]) t (by simp) (by intro e; subst e; simp at h1) (okS_mem.2 fun x hx => by
        rcases List.mem_append.1 hx with hx | hx
        · exact okS_mem.1 hpj x hx
        · exact okS_mem.1 h2 x hx) hL]
      simp
theorem prn_mem (n : Nat) (L : List Int → Bool) : ∀ k p s, s ∈ prn n L k p → ∃ t, s = p ++ t ∧ t.length = k ∧ okS n t
  | 0, _, _, h => by simp [prn] at h
  | k + 1, p, s, h => by
    simp only [prn, List.mem_flatMap, List.mem_range] at h
    obtain ⟨j, hj, h⟩ := h
    split at h
    · rename_i hk
      rw [List.mem_singleton] at h
      exact ⟨[(j : Int)], h, by simp [hk], okS_mem.2 fun x hx => by rw [List.mem_singleton] at hx; omega⟩
    · cases hL : L (p ++ [(j : Int)]) with
      | true => rw [hL] at h; simp at h
      | false =>
        rw [hL] at h
        obtain ⟨t, rfl, h1, h2⟩ := prn_mem n L k _ s h
        refine ⟨(j : Int) :: t, by simp, by simp [h1], okS_mem.2 fun x hx => ?_⟩
        rcases List.mem_cons.1 hx with rfl | hx
        · omega
        · exact okS_mem.1 h2 x hx
/-- The first round that is kept. -/
def bestFrom (K : List Int → Bool) (N : Nat) : Nat → Nat → List Int × Int
  | 0, _ => ([], 4)
  | c + 1, n => match (seqs N n).find? K with
    | some s => (s, 0)
    | none => bestFrom K N c (n + 1)
/-! ### Kept -/
theorem keptD_iff : ∀ (l : List JobD) (g : List Int), l.length = g.length → (keptD l g = true ↔ ∀ i, i < l.length → g.getD i 0 ≠ 0 ∧ g.getD i 0 ≤ (l.getD i default).every)
  | [], [], _ => by simp [keptD]
  | [], _ :: _, h => by simp at h
  | _ :: _, [], h => by simp at h
  | j :: l, x :: g, h => by
    have ih := keptD_iff l g (by simpa using h)
    simp only [keptD, Bool.and_eq_true, ih]
    constructor
    · rintro ⟨h1, h2⟩ i hi
      cases i with
      | zero =>
        simp only [Bool.not_eq_true', Bool.cond_eq_ite] at h1
        by_cases hx : x = 0
        · simp [hx] at h1
        · simp [hx] at h1
          exact ⟨by simpa using hx, by simpa using h1⟩
      | succ i => exact by simpa using h2 i (by simpa using hi)
    · intro h3
      refine ⟨?_, fun i hi => by simpa using h3 (i + 1) (by simp; omega)⟩
      have := h3 0 (by simp)
      simp at this
      simp [Bool.cond_eq_ite, this.1, this.2]
def keptB (r : RadarD) (l : List JobD) (s : List Int) : Bool := keptD l (gapsD r l s l.length)
theorem keptB_iff {r : RadarD} {l : List JobD} {s : List Int} (hs : okS l.length s) : keptB r l s = true ↔ ∀ i : Nat, i < l.length → gapD r l s i ≠ 0 ∧ gapD r l s i ≤ (l.getD i default).every := by
  unfold keptB
  rw [keptD_iff l _ (gapsD_len r l s l.length).symm]
  constructor
  · intro h i hi; rw [← gapsD_get r l s l.length hs i hi]; exact h i hi
  · intro h i hi; rw [gapsD_get r l s l.length hs i hi]; exact h i hi
/-- Whether some job is late behind a sequence. -/
def anyLate (r : RadarD) (l : List JobD) (s : List Int) : Bool := (List.range l.length).any fun j : Nat => lateD r l s j
theorem anyLate_kept {r : RadarD} {l : List JobD} (hr : radarOk r = true) (hl : okJ l) {p q : List Int} (hp : p ≠ []) (hs : okS l.length (p ++ q)) (h : anyLate r l p = true) : keptB r l (p ++ q) = false := by
  unfold anyLate at h
  rw [List.any_eq_true] at h
  obtain ⟨j, hj, h⟩ := h
  rw [List.mem_range] at hj
  cases hk : keptB r l (p ++ q) with
  | false => rfl
  | true =>
    have h1 := (keptB_iff hs).1 hk j hj
    have h2 := late_gap hr hl hs (by cases p with | nil => exact absurd rfl hp | cons _ _ => simp) (j := (j : Int)) (by omega) h
    rw [Int.toNat_natCast] at h2
    omega
theorem best_find {r : RadarD} {l : List JobD} (hr : radarOk r = true) (hl : okJ l) (k : Nat) : (prn l.length (anyLate r l) (k + 1) []).find? (keptB r l) = (seqs l.length (k + 1)).find? (keptB r l) := by
  rw [prn_find l.length (anyLate r l) (keptB r l) (fun p q hp _ hs h => anyLate_kept hr hl hp hs h) k [] (okS_nil _), ext_eq]
  simp
end Go.Plan
