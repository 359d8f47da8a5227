/- Chapter 3, plain: trains, echoes and speeds of the program are those of the document. -/
import Derived.Test.YtbhjgebjojdohaaF3XD
namespace Go.Proofs.Ytbhjgebjojdohaa
open Go Go.RowKit Go.Eng
set_option maxRecDepth 10000
set_option linter.unusedVariables false
set_option linter.unusedSimpArgs false
theorem ckb {β : Type} {x : Int} {f : Int → Option β} (h : -9000000000000000000 ≤ x ∧ x ≤ 9000000000000000000) : (ck x).bind f = f x := by
  unfold ck; rw [if_pos (by omega)]; rfl
theorem ck1 {x : Int} (h : -9000000000000000000 ≤ x ∧ x ≤ 9000000000000000000) : ck x = some x := by
  unfold ck; rw [if_pos (by omega)]
theorem gdT {α : Type} {g : Bool} {o : Option α} {d : α} (h : g = true) : gd g o d = o := by subst h; rfl
theorem gdF {α : Type} {g : Bool} {o : Option α} {d : α} (h : g = false) : gd g o d = some d := by subst h; rfl
theorem bifT {α : Type} {c : Bool} {x y : α} (h : c = true) : (bif c then x else y) = x := by rw [h]; rfl
theorem bifF {α : Type} {c : Bool} {x y : α} (h : c = false) : (bif c then x else y) = y := by rw [h]; rfl
theorem sb {α β : Type} {x : α} {f : α → Option β} : (some x).bind f = f x := rfl
theorem getb {α β : Type} {l : List α} {i : Int} {f : α → Option β} (d : α) (h : 0 ≤ i ∧ i < l.length) : (getI l i).bind f = f (l.getD i.toNat d) := by
  unfold getI
  rw [if_pos h.1, List.getElem?_eq_getElem (by omega), List.getD_eq_getElem?_getD, List.getElem?_eq_getElem (by omega)]
  rfl
theorem apdb {α β : Type} {l k : List α} {B : Nat} {f : List α → Option β} (h : (l.length + k.length) * B ≤ 140737488355328 ∧ l.length + k.length ≤ 9223372036854775807) : (apd B l k).bind f = f (l ++ k) := by
  unfold apd
  rw [if_pos h]
  rfl
def pt (t : ref02_Train) : pulse_Train := ⟨t.Lambda, t.Kind, t.First, t.Second, t.Count⟩
/-- What a valid train is. -/
def okTrain (t : ref02_Train) : Bool :=
  decide (10000 ≤ t.Lambda ∧ t.Lambda ≤ 1000000 ∧ 200 ≤ t.First ∧ t.First ≤ 5000 ∧ t.Count ≤ 64 ∧
    ((t.Kind = 1 ∧ t.Second = 0 ∧ 2 ≤ t.Count) ∨ (t.Kind = 2 ∧ t.Count.tmod 2 = 0 ∧ 4 ≤ t.Count ∧ 200 ≤ t.Second ∧ t.Second ≤ 5000 ∧ t.First < t.Second) ∨
      (t.Kind = 3 ∧ 3 ≤ t.Count ∧ 200 ≤ t.Second ∧ t.Second ≤ 5000 ∧ t.First < t.Second)))
def trainE (t : ref02_Train) : Int := if t.Kind ≠ 1 ∧ t.Kind ≠ 2 ∧ t.Kind ≠ 3 then 2 else if okTrain t = true then 0 else 3
theorem rem2 (x : Int) : remC x 2 = some (x.tmod 2) := rfl
theorem pulse_train (F : Nat) (t : ref02_Train) : pulse_CheckTrain F (pt t) = some (trainE t) := by
  unfold pulse_CheckTrain pulse_CheckTrain_K1 pulse_CheckTrain_K2 trainE okTrain pulse_within pt
  simp only [rem2, Option.bind_some]
  by_cases h1 : t.Kind = 1
  · simp [h1, cond_eq_ite]; grind
  · by_cases h2 : t.Kind = 2
    · simp [h2, cond_eq_ite]; grind
    · by_cases h3 : t.Kind = 3
      · simp [h3, cond_eq_ite]; grind
      · simp [h1, h2, h3, cond_eq_ite]
theorem ref_train (F : Nat) (t : ref02_Train) : ref02_CheckTrain F t = some (trainE t) := by
  unfold ref02_CheckTrain ref02_CheckTrain_K1 trainE okTrain ref01_In
  simp only [rem2, Option.bind_some]
  by_cases h1 : t.Kind = 1
  · simp [h1, cond_eq_ite]; grind
  · by_cases h2 : t.Kind = 2
    · simp [h2, cond_eq_ite]; grind
    · by_cases h3 : t.Kind = 3
      · simp [h3, cond_eq_ite]; grind
      · simp [h1, h2, h3, cond_eq_ite]
/-- How steps turn. -/
def turnB (s : api_Span) : Bool := decide (-32768 ≤ s.Lo ∧ s.Lo ≤ 32767 ∧ s.Lo ≤ s.Hi ∧ s.Hi ≤ s.Lo + 65535)
theorem ref_turns (F : Nat) (s : api_Span) : ref02_turns F s = some (turnB s) := by
  unfold ref02_turns ref01_In turnB
  by_cases h : -32768 ≤ s.Lo ∧ s.Lo ≤ 32767
  · have e : (bif decide (s.Lo ≥ -32768) then decide (s.Lo ≤ 32767) else false) = true := by simp [h.1, h.2]
    rw [e, gdT (g := true == true && true) rfl, ckb (by omega), gdT (g := true == true && true) rfl, ckb (by omega)]
    simp [cond_eq_ite]
    grind
  · have e : (bif decide (s.Lo ≥ -32768) then decide (s.Lo ≤ 32767) else false) = false := by simp [cond_eq_ite]; omega
    rw [e, gdF (g := false == true && true) rfl, sb, gdF (g := false == true && true) rfl, sb]
    simp
    grind
theorem turning_step (p : List api_Span) (k : Int → Option Bool) (i : Nat) (s : api_Span) (h : p[i]? = some s) (hi : i < 1000) : pulse_turning_B2 p k (i : Int) = if turnB s then k ((i : Int) + 1) else some false := by
  have hl := (List.getElem?_eq_some_iff.1 h).1
  unfold pulse_turning_B2
  rw [bifT (by simpa using hl), getb s (by omega)]
  simp only [List.getD_eq_getElem?_getD, Int.toNat_natCast, h, Option.getD_some]
  unfold turnB pulse_within
  by_cases hw : -32768 ≤ s.Lo ∧ s.Lo ≤ 32767
  · have e : (bif decide (-32768 ≤ s.Lo) then decide (s.Lo ≤ 32767) else false) = true := by simp [hw.1, hw.2]
    rw [e, gdT (g := (!true) == false && true) rfl, ckb (by omega), gdT (g := (!true) == false && true) rfl, ckb (by omega), ckb (by omega)]
    have e2 : s.Lo + 65536 - 1 = s.Lo + 65535 := by omega
    rw [e2]
    by_cases h2 : s.Lo ≤ s.Hi ∧ s.Hi ≤ s.Lo + 65535
    · rw [if_pos (by simp [hw, h2])]; simp [h2]
    · rw [if_neg (by simp; intro _ _ h3; omega)]
      have : (bif decide (s.Lo ≤ s.Hi) then decide (s.Hi ≤ s.Lo + 65535) else false) = false := by simp [cond_eq_ite]; omega
      rw [this]; rfl
  · have e : (bif decide (-32768 ≤ s.Lo) then decide (s.Lo ≤ 32767) else false) = false := by simp [cond_eq_ite]; omega
    rw [e, gdF (g := (!false) == false && true) rfl, sb, gdF (g := (!false) == false && true) rfl, sb, if_neg (by simp; intro h1 h2; omega)]
    rfl
theorem pulse_turning_eq (F : Nat) (hF : 4 ≤ F) (a b c : api_Span) : pulse_turning F [a, b, c] = some (turnB a && turnB b && turnB c) := by
  obtain ⟨n, rfl⟩ : ∃ n, F = n + 4 := ⟨F - 4, by omega⟩
  show pulse_turning_B2 [a, b, c] (pulse_turning_L2 [a, b, c] (n + 3)) ((0 : Nat) : Int) = _
  rw [turning_step _ _ 0 a rfl (by omega)]
  cases ha : turnB a
  · rfl
  · show pulse_turning_B2 [a, b, c] (pulse_turning_L2 [a, b, c] (n + 2)) ((1 : Nat) : Int) = _
    rw [turning_step _ _ 1 b rfl (by omega)]
    cases hb : turnB b
    · rfl
    · show pulse_turning_B2 [a, b, c] (pulse_turning_L2 [a, b, c] (n + 1)) ((2 : Nat) : Int) = _
      rw [turning_step _ _ 2 c rfl (by omega)]
      cases hc : turnB c
      · rfl
      · rfl
/-- What a valid echo is. -/
def inB (s : api_Span) (lo hi : Int) : Bool := decide (lo ≤ s.Lo ∧ s.Lo ≤ s.Hi ∧ s.Hi ≤ hi)
def noB (s : api_Span) : Bool := decide (s.Lo = 0 ∧ s.Hi = 0)
def okEcho (x : api_Echo) : Bool :=
  inB x.Power 0 1073741824 && (if x.Kind = 1 then decide (x.Power.Lo = 0) && noB x.Steps.1 && noB x.Steps.2 && decide (x.Spread = 0) && noB x.Ratio && noB x.Match && noB x.Turn
    else decide (1 ≤ x.Power.Lo) && inB x.Ratio 0 1000000 && inB x.Match 0 1000 && decide (0 ≤ x.Spread ∧ x.Spread ≤ 65535) &&
      (if x.Kind = 2 then noB x.Steps.1 && noB x.Steps.2 && noB x.Turn else turnB x.Steps.1 && turnB x.Steps.2 && turnB x.Turn))
def echoE (x : api_Echo) : Int := if x.Kind ≠ 1 ∧ x.Kind ≠ 2 ∧ x.Kind ≠ 3 then 2 else if okEcho x = true then 0 else 3
theorem inside_in (s : api_Span) (lo hi : Int) : pulse_inside s lo hi = inB s lo hi := by
  unfold pulse_inside inB; rw [Bool.eq_iff_iff]; simp [cond_eq_ite]; omega
theorem valid_in (s : api_Span) (lo hi : Int) : ref01_Valid s lo hi = inB s lo hi := by
  unfold ref01_Valid inB; rw [Bool.eq_iff_iff]; simp [cond_eq_ite]; omega
theorem no_eq (s : api_Span) : (((s.Lo : Int) == 0) && (((s.Hi : Int) == 0) && true)) = noB s := by
  unfold noB; rw [Bool.eq_iff_iff]; simp
theorem span_eta (s : api_Span) : api_Span.mk s.Lo s.Hi = s := rfl
theorem echo_eta (p1 : api_Echo) : (api_Echo.mk p1.Kind p1.Power ((api_Span.mk p1.Steps.1.Lo p1.Steps.1.Hi), (api_Span.mk p1.Steps.2.Lo p1.Steps.2.Hi)) p1.Spread p1.Ratio p1.Match p1.Turn) = p1 := rfl
theorem pulse_echo (F : Nat) (hF : 4 ≤ F) (x : api_Echo) : pulse_CheckEcho F x = some (echoE x) := by
  unfold pulse_CheckEcho pulse_CheckEcho_K1 pulse_CheckEcho_K2 pulse_CheckEcho_K1 echoE okEcho pulse_within
  simp only [span_eta, inside_in, no_eq, pulse_turning_eq F hF, Option.bind_some]
  by_cases h1 : x.Kind = 1
  · simp [h1, cond_eq_ite]; grind
  · by_cases h2 : x.Kind = 2
    · simp [h2, cond_eq_ite]; grind
    · by_cases h3 : x.Kind = 3
      · simp [h3, cond_eq_ite]; grind
      · simp [h1, h2, h3, cond_eq_ite]
theorem ref_echo (F : Nat) (x : api_Echo) : ref02_CheckEcho F x = some (echoE x) := by
  unfold ref02_CheckEcho echoE okEcho ref01_In
  simp only [span_eta, valid_in, no_eq, ref_turns, Option.bind_some]
  by_cases h1 : x.Kind = 1
  · simp [h1, cond_eq_ite]; grind
  · by_cases h2 : x.Kind = 2
    · simp [h2, cond_eq_ite]; grind
    · by_cases h3 : x.Kind = 3
      · simp [h3, cond_eq_ite]
        unfold gd
        cases turnB x.Steps.1 <;> cases turnB x.Steps.2 <;> cases turnB x.Turn <;> simp <;> grind
      · simp [h1, h2, h3, cond_eq_ite]
/-! ### Quotients -/
theorem quo_pos {x y : Int} (hx : -4000000000000000000 ≤ x ∧ x ≤ 4000000000000000000) (hy : 0 < y) : quoC x y = some (x.tdiv y) ∧ (x.tdiv y ≤ 4000000000000000000 ∧ -4000000000000000000 ≤ x.tdiv y) := by
  have hb : x.tdiv y ≤ 4000000000000000000 ∧ -4000000000000000000 ≤ x.tdiv y := by
    have h := Int.natAbs_tdiv_le_natAbs x y
    omega
  refine ⟨?_, hb⟩
  unfold quoC
  rw [if_neg (by omega), ck1 (by omega)]
theorem tdiv_floor (x y : Int) (hy : 0 < y) : x / y = if x.tmod y < 0 then x.tdiv y - 1 else x.tdiv y := by
  have h1 := Int.tmod_add_mul_tdiv x y
  have h2 : x.tmod y < y := by
    rcases Int.le_total 0 x with h | h
    · exact Int.tmod_lt_of_pos x hy
    · exact Int.tmod_lt_of_pos x hy
  have h3 : -y < x.tmod y := by
    have := Int.tmod_lt_of_pos (-x) hy
    rw [Int.neg_tmod] at this
    omega
  split
  · rename_i h
    apply Int.le_antisymm
    · apply Int.le_of_lt_add_one
      apply Int.ediv_lt_of_lt_mul hy
      have : (x.tdiv y - 1 + 1) * y = y * x.tdiv y := by rw [Int.sub_add_cancel, Int.mul_comm]
      omega
    · apply Int.le_ediv_of_mul_le hy
      have : (x.tdiv y - 1) * y = y * x.tdiv y - y := by rw [Int.sub_mul, Int.one_mul, Int.mul_comm]
      omega
  · rename_i h
    apply Int.le_antisymm
    · apply Int.le_of_lt_add_one
      apply Int.ediv_lt_of_lt_mul hy
      have : (x.tdiv y + 1) * y = y * x.tdiv y + y := by rw [Int.add_mul, Int.one_mul, Int.mul_comm]
      omega
    · apply Int.le_ediv_of_mul_le hy
      have : x.tdiv y * y = y * x.tdiv y := Int.mul_comm ..
      omega
theorem down_pulse (F : Nat) {x y : Int} (hx : -4000000000000000000 ≤ x ∧ x ≤ 4000000000000000000) (hy : 0 < y) : pulse_down F x y = some (x / y) := by
  obtain ⟨h, hb⟩ := quo_pos hx hy
  have h1 := Int.tmod_add_mul_tdiv x y
  have hm : x.tdiv y * y = y * x.tdiv y := Int.mul_comm ..
  have h2 := Int.tmod_lt_of_pos x hy
  have h3 : x.natAbs.mod y.natAbs ≤ x.natAbs := Nat.mod_le _ _
  have h4 : (x.tmod y).natAbs ≤ x.natAbs := by rw [Int.natAbs_tmod]; exact h3
  unfold pulse_down
  rw [h, sb, ckb (by omega), tdiv_floor x y hy]
  by_cases hc : x.tmod y < 0
  · rw [if_pos hc, bifT (by simp; omega), ckb (by omega)]
  · rw [if_neg hc, bifF (by simp; omega)]
theorem down_ref (F : Nat) {x y : Int} (hx : -4000000000000000000 ≤ x ∧ x ≤ 4000000000000000000) (hy : 0 < y) : ref01_Down F x y = some (x / y) := by
  obtain ⟨h, hb⟩ := quo_pos hx hy
  unfold ref01_Down
  rw [h, sb]
  unfold remC
  rw [if_neg (by omega), sb, tdiv_floor x y hy]
  by_cases hc : x.tmod y < 0
  · rw [if_pos hc, bifT (by simpa using hc), ckb (by omega)]
  · rw [if_neg hc, bifF (by simpa using hc)]
theorem div_bd {x y : Int} (hx : -4000000000000000000 ≤ x ∧ x ≤ 4000000000000000000) (hy : 0 < y) : -4000000000000000001 ≤ x / y ∧ x / y ≤ 4000000000000000000 := by
  have := (quo_pos hx hy).2
  rw [tdiv_floor x y hy]
  split <;> omega
theorem neg_wrap {x : Int} (hx : -4000000000000000001 ≤ x ∧ x ≤ 4000000000000000001) : IntKind.i64.wrap (0 - x) = -x := by
  rw [Go.Eng.wrap64 (by omega)]; omega
theorem up_pulse (F : Nat) {x y : Int} (hx : -4000000000000000000 ≤ x ∧ x ≤ 4000000000000000000) (hy : 0 < y) : pulse_up F x y = some (-(-x / y)) := by
  have := div_bd (x := -x) (y := y) (by omega) hy
  unfold pulse_up
  rw [neg_wrap (by omega), down_pulse F (by omega) hy, sb, neg_wrap (by omega)]
theorem up_ref (F : Nat) {x y : Int} (hx : -4000000000000000000 ≤ x ∧ x ≤ 4000000000000000000) (hy : 0 < y) : ref01_Up F x y = some (-(-x / y)) := by
  have := div_bd (x := -x) (y := y) (by omega) hy
  unfold ref01_Up
  rw [neg_wrap (by omega), down_ref F (by omega) hy, sb, neg_wrap (by omega)]
end Go.Proofs.Ytbhjgebjojdohaa
/- Chapter 3, plain: times and speeds. -/
namespace Go.Proofs.Ytbhjgebjojdohaa
open Go Go.RowKit Go.Eng
set_option maxRecDepth 10000
set_option linter.unusedVariables false
set_option linter.unusedSimpArgs false
def timeE (t : ref02_Train) (w : Int) : Int × Int :=
  if trainE t ≠ 0 then (0, trainE t) else if w = 0 then (t.First, 0) else if w = 1 ∧ t.Kind ≠ 1 then (t.Second, 0) else (0, 2)
theorem trainE_ok {t : ref02_Train} (h : trainE t = 0) : okTrain t = true := by
  unfold trainE at h
  split at h
  · cases h
  · split at h
    · assumption
    · cases h
theorem pulse_time (F : Nat) (t : ref02_Train) (w : Int) : pulse_Train_time F (pt t) w = some (timeE t w) := by
  unfold pulse_Train_time timeE
  rw [pulse_train, sb]
  by_cases h : trainE t = 0
  · have hk := trainE_ok h
    unfold okTrain at hk
    simp only [decide_eq_true_eq] at hk
    simp only [h, pulse_within, pt]
    have hF : t.First ≠ 0 := by omega
    by_cases h0 : w = 0
    · subst h0; simp [hF, cond_eq_ite]
    · by_cases h1 : w = 1
      · subst h1
        by_cases hs : t.Kind = 1
        · have : t.Second = 0 := by omega
          simp [hs, this, cond_eq_ite]
        · have : t.Second ≠ 0 := by omega
          simp [hs, this, cond_eq_ite]
      · have e : (bif decide (0 ≤ w) then decide (w ≤ 1) else false) = false := by simp [cond_eq_ite]; omega
        rw [e]
        simp [h0, h1, cond_eq_ite]
  · rw [bifT (by simpa using h), if_pos h]
theorem ref_time (F : Nat) (t : ref02_Train) (w : Int) : ref02_time F t w = some (timeE t w) := by
  unfold ref02_time timeE
  rw [ref_train, sb]
  by_cases h : trainE t = 0
  · simp only [h]
    by_cases h0 : w = 0
    · subst h0; simp
    · by_cases h1 : w = 1
      · subst h1
        by_cases hs : t.Kind = 1
        · simp [hs, cond_eq_ite]
        · simp [hs, cond_eq_ite]
      · simp [h0, h1, cond_eq_ite]
  · rw [bifT (by simpa using h), if_pos h]
def us (t : ref02_Train) (w : Int) : Int := if w = 0 then t.First else t.Second
/-- The speeds of a step, after whole turns. -/
def spd (t : ref02_Train) (w : Int) (s : api_Span) (k : Int) : api_Span :=
  ⟨500 * t.Lambda * (s.Lo + k * 65536) / (65536 * us t w), -(-(500 * t.Lambda * (s.Hi + k * 65536)) / (65536 * us t w))⟩
/-- A time that a train has. -/
def hasT (t : ref02_Train) (w : Int) : Prop := trainE t = 0 ∧ (w = 0 ∨ (w = 1 ∧ t.Kind ≠ 1))
theorem hasT.time {t : ref02_Train} {w : Int} (h : hasT t w) : timeE t w = (us t w, 0) ∧ 200 ≤ us t w ∧ us t w ≤ 5000 ∧ 10000 ≤ t.Lambda ∧ t.Lambda ≤ 1000000 := by
  obtain ⟨h1, h2⟩ := h
  have hk := trainE_ok h1
  unfold okTrain at hk
  simp only [decide_eq_true_eq] at hk
  unfold timeE us
  rw [if_neg (by simpa using h1)]
  rcases h2 with rfl | ⟨rfl, h2⟩
  · simp; omega
  · simp [h2]; omega
theorem prod_bd {L p : Int} (hL : 10000 ≤ L ∧ L ≤ 1000000) (hp : -5000000 ≤ p ∧ p ≤ 5000000) : -4000000000000000000 ≤ 500 * L * p ∧ 500 * L * p ≤ 4000000000000000000 := by
  have h1 : 500 * L * p ≤ 500 * L * 5000000 := Int.mul_le_mul_of_nonneg_left hp.2 (by omega)
  have h2 : 500 * L * (-5000000) ≤ 500 * L * p := Int.mul_le_mul_of_nonneg_left hp.1 (by omega)
  omega
theorem pulse_speed (F : Nat) {t : ref02_Train} {w k : Int} {s : api_Span} (h : hasT t w) (hs : inB s (-131072) 131072 = true) (hk : -64 ≤ k ∧ k ≤ 64) : pulse_Speed F (pt t) w s k = some (spd t w s k, 0) := by
  obtain ⟨ht, hu1, hu2, hL⟩ := h.time
  have hs' := hs
  unfold inB at hs'
  simp only [decide_eq_true_eq] at hs'
  have b1 := prod_bd (p := s.Lo + k * 65536) hL (by omega)
  have b2 := prod_bd (p := s.Hi + k * 65536) hL (by omega)
  have hw : pulse_within k (-64) 64 = true := by unfold pulse_within; simp [hk]
  unfold pulse_Speed
  rw [pulse_time, sb, ht]
  simp only [inside_in, hs, hw]
  refine Eq.trans (bifF rfl) (Eq.trans (bifF rfl) ?_)
  unfold pulse_Speed_1_at141 pulse_Speed_1_at142
  simp only [pt]
  rw [ckb (by omega), ckb (by omega), ckb (by omega), ckb (by omega), ckb (by omega), down_pulse F (by omega) (by omega), sb, sb, ckb (by omega), ckb (by omega), ckb (by omega), ckb (by omega), ckb (by omega), up_pulse F (by omega) (by omega), sb, sb]
  rfl
theorem ref_speed (F : Nat) {t : ref02_Train} {w k : Int} {s : api_Span} (h : hasT t w) (hs : inB s (-131072) 131072 = true) (hk : -64 ≤ k ∧ k ≤ 64) : ref02_Speed F t w s k = some (spd t w s k, 0) := by
  obtain ⟨ht, hu1, hu2, hL⟩ := h.time
  have hs' := hs
  unfold inB at hs'
  simp only [decide_eq_true_eq] at hs'
  have b1 := prod_bd (p := s.Lo + k * 65536) hL (by omega)
  have b2 := prod_bd (p := s.Hi + k * 65536) hL (by omega)
  have hw : ref01_In k (-64) 64 = true := by unfold ref01_In; simp [hk]
  unfold ref02_Speed
  rw [ref_time, sb, ht]
  simp only [valid_in, hs, hw]
  refine Eq.trans (bifF rfl) (Eq.trans (bifF rfl) ?_)
  rw [ckb (by omega), ckb (by omega), ckb (by omega), ckb (by omega), ckb (by omega), down_ref F (by omega) (by omega), sb, ckb (by omega), ckb (by omega), ckb (by omega), ckb (by omega), ckb (by omega), up_ref F (by omega) (by omega), sb]
  rfl
/-! ### Within a bound -/
def comm (a b : api_Span) : api_Span := ⟨if b.Lo > a.Lo then b.Lo else a.Lo, if b.Hi < a.Hi then b.Hi else a.Hi⟩
theorem fold_common_eq (a b : api_Span) : fold_common a b = (comm a b, decide ((comm a b).Lo ≤ (comm a b).Hi)) := rfl
theorem ref_common_eq (a b : api_Span) : ref03_common a b = (comm a b, decide ((comm a b).Lo ≤ (comm a b).Hi)) := rfl
def stepOf (x : api_Echo) (w : Int) : api_Span := if w = 0 then x.Steps.1 else x.Steps.2
/-- The speeds of an echo for a time and whole turns, within a bound. -/
def spw (t : ref02_Train) (x : api_Echo) (m : Int) (w k : Int) : api_Span := comm (spd t w (stepOf x w) k) ⟨-m, m⟩
def isw (t : ref02_Train) (x : api_Echo) (m : Int) (w k : Int) : Bool := decide ((spw t x m w k).Lo ≤ (spw t x m w k).Hi)
/-- A clear echo: its steps are steps. -/
theorem clear_steps {x : api_Echo} (h : echoE x = 0) (hk : x.Kind = 3) (w : Int) : inB (stepOf x w) (-131072) 131072 = true := by
  unfold echoE at h
  rw [if_neg (by omega)] at h
  have h2 : okEcho x = true := by
    split at h
    · assumption
    · cases h
  unfold okEcho at h2
  rw [if_neg (by omega), if_neg (by omega)] at h2
  simp only [Bool.and_eq_true] at h2
  unfold turnB inB stepOf at *
  simp only [decide_eq_true_eq] at *
  split <;> omega
theorem ref_sp (F : Nat) {t : ref02_Train} {x : api_Echo} {w k m : Int} (h : hasT t w) (hs : ∀ w, inB (stepOf x w) (-131072) 131072 = true) (hk : -64 ≤ k ∧ k ≤ 64) (hm : 1 ≤ m ∧ m ≤ 200000) :
    ref03_speed F t x w k m = some (spw t x m w k, isw t x m w k) := by
  have hn : IntKind.i64.wrap (0 - m) = -m := neg_wrap (by omega)
  unfold ref03_speed
  rcases h.2 with rfl | ⟨rfl, h2⟩
  · refine Eq.trans (bifT rfl) ?_
    rw [span_eta, show x.Steps.1 = stepOf x 0 from rfl, ref_speed F h (hs 0) hk, sb, hn]; rfl
  · refine Eq.trans (bifF rfl) (Eq.trans (bifT rfl) ?_)
    rw [span_eta, show x.Steps.2 = stepOf x 1 from rfl, ref_speed F h (hs 1) hk, sb, hn]; rfl
end Go.Proofs.Ytbhjgebjojdohaa
/- Chapter 3, plain: the options of an echo. -/
namespace Go.Proofs.Ytbhjgebjojdohaa
open Go Go.RowKit Go.Eng
set_option maxRecDepth 10000
set_option linter.unusedVariables false
set_option linter.unusedSimpArgs false
def kr : Nat → Int → List Int
  | 0, _ => []
  | n + 1, x => x :: kr n (x + 1)
theorem kr_mem : ∀ {n : Nat} {x y : Int}, y ∈ kr n x → x ≤ y ∧ y < x + n := by
  intro n
  induction n with
  | zero => intro x y h; cases h
  | succ n ih =>
    intro x y h
    rcases List.mem_cons.1 h with rfl | h
    · omega
    · have := ih h; omega
theorem kr_len : ∀ (n : Nat) (x : Int), (kr n x).length = n := by
  intro n
  induction n with
  | zero => intro x; rfl
  | succ n ih => intro x; simp [kr, ih]
section
variable {t : ref02_Train} {x : api_Echo} {m w : Int}
def og (t : ref02_Train) (x : api_Echo) (m w k : Int) : Option fold_option := if isw t x m w k = true then some ⟨k, spw t x m w k⟩ else none
theorem opt_step {σ : Type} (F : Nat) (body : σ → fold_option → Option (σ × Bool)) (k1 : Int → σ → Option (σ × Bool)) (h : hasT t w) (hs : ∀ w, inB (stepOf x w) (-131072) 131072 = true) (hm : 1 ≤ m ∧ m ≤ 200000) {k : Int} (hk : -64 ≤ k ∧ k ≤ 64) (s : σ) :
    fold_options_1_B1 F body (pt t) w x m k1 k s = bif isw t x m w k then (body s ⟨k, spw t x m w k⟩).bind (fun q => bif q.2 then k1 (k + 1) q.1 else some (q.1, false)) else k1 (k + 1) s := by
  have hn : IntKind.i64.wrap (0 - m) = -m := neg_wrap (by omega)
  have hc : ∀ {β : Type} (f : Int → Option β), (ck (k + 1)).bind f = f (k + 1) := fun f => ckb (by omega)
  unfold fold_options_1_B1
  rw [bifT (by simpa using hk.2)]
  rcases h.2 with rfl | ⟨rfl, h2⟩
  · refine Eq.trans (bifT rfl) ?_
    rw [span_eta, show x.Steps.1 = stepOf x 0 from rfl, pulse_speed F h (hs 0) hk, sb, hn]
    simp only [hc]
    rfl
  · refine Eq.trans (bifF rfl) (Eq.trans (bifT rfl) ?_)
    rw [span_eta, show x.Steps.2 = stepOf x 1 from rfl, pulse_speed F h (hs 1) hk, sb, hn]
    simp only [hc]
    rfl
theorem Y1_eq (l : List fold_option) (o : fold_option) (h : l.length ≤ 1000) : fold_list_Y1 (l, 0) o = some ((l ++ [o], 0), true) := by
  unfold fold_list_Y1
  rw [apdb (by simp; omega)]
theorem opt_loop (F : Nat) (h : hasT t w) (hs : ∀ w, inB (stepOf x w) (-131072) 131072 = true) (hm : 1 ≤ m ∧ m ≤ 200000) : ∀ (n : Nat) (N : Nat) (k : Int) (l : List fold_option), k + n = 65 → -64 ≤ k → n < N → l.length + n ≤ 1000 →
    fold_options_1_L1 F fold_list_Y1 (pt t) w x m N k (l, 0) = some ((l ++ (kr n k).filterMap (og t x m w), 0), true) := by
  intro n
  induction n with
  | zero =>
    intro N k l hk hk2 hN hl
    obtain ⟨N, rfl⟩ : ∃ N', N = N' + 1 := ⟨N - 1, by omega⟩
    show fold_options_1_B1 F fold_list_Y1 (pt t) w x m (fold_options_1_L1 F fold_list_Y1 (pt t) w x m N) k (l, 0) = _
    unfold fold_options_1_B1
    rw [bifF (by simp; omega)]
    simp [kr]
  | succ n ih =>
    intro N k l hk hk2 hN hl
    obtain ⟨N, rfl⟩ : ∃ N', N = N' + 1 := ⟨N - 1, by omega⟩
    show fold_options_1_B1 F fold_list_Y1 (pt t) w x m (fold_options_1_L1 F fold_list_Y1 (pt t) w x m N) k (l, 0) = _
    rw [opt_step F _ _ h hs hm (by omega)]
    cases hw : isw t x m w k with
    | true =>
      rw [cond_true, Y1_eq l _ (by omega), sb]
      refine Eq.trans (bifT rfl) ?_
      rw [ih N (k + 1) _ (by omega) (by omega) (by omega) (by simp; omega)]
      simp [kr, og, hw]
    | false =>
      rw [cond_false, ih N (k + 1) _ (by omega) (by omega) (by omega) (by omega)]
      simp [kr, og, hw]
/-- The options of an echo. -/
def opts (t : ref02_Train) (x : api_Echo) (m w : Int) : List fold_option := (kr 129 (-64)).filterMap (og t x m w)
theorem opts_len : (opts t x m w).length ≤ 129 := by
  have := List.length_filterMap_le (og t x m w) (kr 129 (-64))
  rw [kr_len] at this
  exact this
theorem og_whole {k : Int} {o : fold_option} (h : og t x m w k = some o) : o.whole = k := by
  unfold og at h
  split at h
  · cases h; rfl
  · cases h
theorem og_mem {l : List Int} {o : fold_option} (h : o ∈ l.filterMap (og t x m w)) : o.whole ∈ l := by
  obtain ⟨k, hk, ho⟩ := List.mem_filterMap.1 h
  rw [og_whole ho]; exact hk
theorem opts_split : opts t x m w = (og t x m w (-64)).toList ++ (kr 127 (-63)).filterMap (og t x m w) ++ (og t x m w 64).toList := by
  unfold opts
  rw [show kr 129 (-64) = [-64] ++ kr 127 (-63) ++ [64] from by kernel_rfl, List.filterMap_append, List.filterMap_append]
  cases h : og t x m w (-64) <;> cases h2 : og t x m w 64 <;> simp [h, h2]
theorem list_eq (F : Nat) (hF : 200 ≤ F) (h : hasT t w) (hs : ∀ w, inB (stepOf x w) (-131072) 131072 = true) (hm : 1 ≤ m ∧ m ≤ 200000) :
    fold_list F (pt t) x w m = some (if isw t x m w (-64) = true ∨ isw t x m w 64 = true then ([], false) else (opts t x m w, true)) := by
  unfold fold_list
  rw [echo_eta]
  unfold fold_options_1
  rw [opt_loop F h hs hm 129 F (-64) [] (by omega) (by omega) (by omega) (by simp), sb]
  refine Eq.trans (bifT rfl) ?_
  simp only [List.nil_append]
  rw [show (kr 129 (-64)).filterMap (og t x m w) = opts t x m w from rfl]
  have hlen := opts_len (t := t) (x := x) (m := m) (w := w)
  have hmid : ∀ o ∈ (kr 127 (-63)).filterMap (og t x m w), -63 ≤ o.whole ∧ o.whole ≤ 63 := fun o ho => by
    have := kr_mem (og_mem ho); omega
  have hsp := opts_split (t := t) (x := x) (m := m) (w := w)
  generalize opts t x m w = L at *
  generalize (kr 127 (-63)).filterMap (og t x m w) = M at *
  cases h1 : isw t x m w (-64) with
  | true =>
    have e1 : og t x m w (-64) = some ⟨-64, spw t x m w (-64)⟩ := by unfold og; rw [if_pos h1]
    rw [e1] at hsp
    have hsp2 : L = ⟨-64, spw t x m w (-64)⟩ :: (M ++ (og t x m w 64).toList) := by rw [hsp]; rfl
    have hpos : decide (((L.length : Nat) : Int) > 0) = true := by rw [hsp2]; simp; omega
    have hll : 0 < L.length := by rw [hsp2]; simp
    have hu : L.getD (0 : Int).toNat default = ⟨-64, spw t x m w (-64)⟩ := by rw [hsp2]; rfl
    simp only [hpos]
    have hw' : ((L.getD (0 : Int).toNat default).whole == -64) = true := by rw [hu]; rfl
    rw [gdT (g := true == true && true) rfl, getb default (by omega), hw', gdF (g := true == false && (true == true && true)) rfl, sb, gdF (g := true == false && (true == true && true)) rfl, sb, if_pos (Or.inl trivial)]
    rfl
  | false =>
    have e1 : og t x m w (-64) = none := by unfold og; rw [if_neg (by simp [h1])]
    rw [e1] at hsp
    simp only [Option.toList, List.nil_append] at hsp
    cases h2 : isw t x m w 64 with
    | true =>
      have e2 : og t x m w 64 = some ⟨64, spw t x m w 64⟩ := by unfold og; rw [if_pos h2]
      rw [e2] at hsp
      simp only at hsp
      have hll : 0 < L.length := by rw [hsp]; simp
      obtain ⟨u, hu, hm'⟩ : ∃ u, L.getD 0 default = u ∧ u ∈ L := ⟨_, rfl, by rw [List.getD_eq_getElem?_getD, List.getElem?_eq_getElem hll]; exact List.getElem_mem hll⟩
      have huw : u.whole ≠ -64 := by
        rw [hsp] at hm'
        rcases List.mem_append.1 hm' with h | h
        · have := hmid _ h; omega
        · simp at h; rw [h]; simp
      have hpos : decide (((L.length : Nat) : Int) > 0) = true := by simp; omega
      have hu' : L.getD (0 : Int).toNat default = u := hu
      have huw' : (u.whole == -64) = false := by simpa using huw
      simp only [hpos]
      rw [gdT (g := true == true && true) rfl, getb default (by omega), hu', huw', gdT (g := false == false && (true == true && true)) rfl, ckb (by omega), gdT (g := false == false && (true == true && true)) rfl, getb default (by omega), if_pos (Or.inr trivial)]
      refine Eq.trans (bifT ?_) rfl
      refine Eq.trans (bifT rfl) (Eq.trans (bifF rfl) ?_)
      have e3 : ((L.length : Int) - 1).toNat = M.length := by rw [hsp]; simp
      rw [e3, hsp]
      simp [List.getD_eq_getElem?_getD]
    | false =>
      have e2 : og t x m w 64 = none := by unfold og; rw [if_neg (by simp [h2])]
      rw [e2] at hsp
      simp only [List.append_nil] at hsp
      subst hsp
      rw [if_neg (by simp)]
      by_cases hll : 0 < L.length
      · have hin : ∀ i, i < L.length → (L.getD i default).whole ≠ -64 ∧ (L.getD i default).whole ≠ 64 := fun i hi => by
          have : L.getD i default ∈ L := by rw [List.getD_eq_getElem?_getD, List.getElem?_eq_getElem hi]; exact List.getElem_mem hi
          have := hmid _ this
          omega
        have ha := (hin 0 hll).1
        have hb := (hin (L.length - 1) (by omega)).2
        have hpos : decide (((L.length : Nat) : Int) > 0) = true := by simp; omega
        have ha' : ((L.getD (0 : Int).toNat default).whole == -64) = false := by simpa using ha
        have hb' : ((L.getD (L.length - 1) default).whole == 64) = false := by simpa using hb
        have e3 : ((L.length : Int) - 1).toNat = L.length - 1 := by omega
        simp only [hpos]
        rw [gdT (g := true == true && true) rfl, getb default (by omega), ha', gdT (g := false == false && (true == true && true)) rfl, ckb (by omega), gdT (g := false == false && (true == true && true)) rfl, getb default (by omega), e3, hb']
        rfl
      · have : L = [] := List.length_eq_zero_iff.1 (by omega)
        subst this
        rfl
end
end Go.Proofs.Ytbhjgebjojdohaa
/- Chapter 3, plain: the guesses of the program and those of the document. -/
namespace Go.Proofs.Ytbhjgebjojdohaa
open Go Go.RowKit Go.Eng
set_option maxRecDepth 10000
set_option linter.unusedVariables false
set_option linter.unusedSimpArgs false
def nonempty (s : api_Span) : Bool := decide (s.Lo ≤ s.Hi)
def gg (u s : fold_option) : Option fold_Guess := if nonempty (comm u.speed s.speed) = true then some ⟨(u.whole, s.whole), comm u.speed s.speed⟩ else none
theorem drop_cons {α : Type} {l : List α} {i : Nat} (h : i < l.length) (d : α) : l.drop i = l.getD i d :: l.drop (i + 1) := by
  rw [List.drop_eq_getElem_cons h, List.getD_eq_getElem?_getD, List.getElem?_eq_getElem h]; rfl
/-! ### The program's loops -/
theorem one_loop (y4 : List fold_option × Bool) (hl4 : y4.1.length ≤ 1000) : ∀ (n N i : Nat) (acc : List fold_Guess), i + n = y4.1.length → n < N → acc.length + n ≤ 1000000 →
    fold_guesses_L8 y4 N acc (i : Int) = some (acc ++ (y4.1.drop i).map (fun f => ⟨(f.whole, 0), f.speed⟩), true) := by
  intro n
  induction n with
  | zero =>
    intro N i acc hi hN hacc
    obtain ⟨N, rfl⟩ : ∃ N', N = N' + 1 := ⟨N - 1, by omega⟩
    show fold_guesses_B8 y4 (fold_guesses_L8 y4 N) acc (i : Int) = _
    unfold fold_guesses_B8
    rw [bifF (by simp; omega), List.drop_eq_nil_of_le (by omega)]
    simp [fold_guesses_K7]
  | succ n ih =>
    intro N i acc hi hN hacc
    obtain ⟨N, rfl⟩ : ∃ N', N = N' + 1 := ⟨N - 1, by omega⟩
    show fold_guesses_B8 y4 (fold_guesses_L8 y4 N) acc (i : Int) = _
    unfold fold_guesses_B8
    rw [bifT (by simp; omega), getb default (by omega), Int.toNat_natCast, apdb (by simp; omega), ckb (by omega)]
    have := ih N (i + 1) (acc ++ [⟨((y4.1.getD i default).whole, 0), (y4.1.getD i default).speed⟩]) (by omega) (by omega) (by simp; omega)
    rw [Int.natCast_add] at this
    refine Eq.trans this ?_
    rw [drop_cons (i := i) (by omega) default]
    simp
theorem two_inner (y72 : List fold_option × Bool) (hl : y72.1.length ≤ 1000) (x8 : Int) (k3 : List fold_Guess → Int → Option (List fold_Guess × Bool)) (u : fold_option) : ∀ (n N i : Nat) (acc : List fold_Guess), i + n = y72.1.length → n < N → acc.length + n ≤ 1000000 →
    fold_guesses_L5 y72 x8 k3 u N acc (i : Int) = fold_guesses_K4 x8 k3 (acc ++ (y72.1.drop i).filterMap (gg u)) := by
  intro n
  induction n with
  | zero =>
    intro N i acc hi hN hacc
    obtain ⟨N, rfl⟩ : ∃ N', N = N' + 1 := ⟨N - 1, by omega⟩
    show fold_guesses_B5 y72 x8 k3 u (fold_guesses_L5 y72 x8 k3 u N) acc (i : Int) = _
    unfold fold_guesses_B5
    rw [bifF (by simp; omega), List.drop_eq_nil_of_le (by omega)]
    simp
  | succ n ih =>
    intro N i acc hi hN hacc
    obtain ⟨N, rfl⟩ : ∃ N', N = N' + 1 := ⟨N - 1, by omega⟩
    show fold_guesses_B5 y72 x8 k3 u (fold_guesses_L5 y72 x8 k3 u N) acc (i : Int) = _
    unfold fold_guesses_B5
    rw [bifT (by simp; omega), getb default (by omega), Int.toNat_natCast, fold_common_eq]
    unfold fold_guesses_K6
    rw [drop_cons (i := i) (by omega) default]
    generalize y72.1.getD i default = v
    have hck : ∀ (l : List fold_Guess), (ck ((i : Int) + 1)).bind (fun x934 => fold_guesses_L5 y72 x8 k3 u N l x934) = fold_guesses_L5 y72 x8 k3 u N l ((i : Int) + 1) := fun l => ckb (by omega)
    simp only [hck]
    cases hc : nonempty (comm u.speed v.speed) with
    | true =>
      refine Eq.trans (bifT hc) ?_
      rw [apdb (by simp; omega)]
      have := ih N (i + 1) (acc ++ [⟨(u.whole, v.whole), comm u.speed v.speed⟩]) (by omega) (by omega) (by simp; omega)
      rw [Int.natCast_add] at this
      refine Eq.trans this ?_
      simp [gg, hc]
    | false =>
      refine Eq.trans (bifF hc) ?_
      have := ih N (i + 1) acc (by omega) (by omega) (by omega)
      rw [Int.natCast_add] at this
      refine Eq.trans this ?_
      simp [gg, hc]
theorem two_loop (F : Nat) (hF : 2000 ≤ F) (y4 y72 : List fold_option × Bool) (hl4 : y4.1.length ≤ 200) (hl7 : y72.1.length ≤ 200) : ∀ (n N i : Nat) (acc : List fold_Guess), i + n = y4.1.length → n < N → acc.length + n * 200 ≤ 100000 →
    fold_guesses_L3 F y4 y72 N acc (i : Int) = some (acc ++ (y4.1.drop i).flatMap (fun u => y72.1.filterMap (gg u)), y72.2) := by
  intro n
  induction n with
  | zero =>
    intro N i acc hi hN hacc
    obtain ⟨N, rfl⟩ : ∃ N', N = N' + 1 := ⟨N - 1, by omega⟩
    show fold_guesses_B3 F y4 y72 (fold_guesses_L3 F y4 y72 N) acc (i : Int) = _
    unfold fold_guesses_B3
    rw [bifF (by simp; omega), List.drop_eq_nil_of_le (by omega)]
    simp [fold_guesses_K2]
  | succ n ih =>
    intro N i acc hi hN hacc
    obtain ⟨N, rfl⟩ : ∃ N', N = N' + 1 := ⟨N - 1, by omega⟩
    show fold_guesses_B3 F y4 y72 (fold_guesses_L3 F y4 y72 N) acc (i : Int) = _
    unfold fold_guesses_B3
    rw [bifT (by simp; omega), getb default (by omega), Int.toNat_natCast]
    rw [drop_cons (i := i) (by omega) default]
    generalize y4.1.getD i default = u
    have h2 := two_inner y72 (by omega) (i : Int) (fold_guesses_L3 F y4 y72 N) u y72.1.length F 0 acc (by omega) (by omega) (by omega)
    refine Eq.trans h2 ?_
    unfold fold_guesses_K4
    rw [ckb (by omega), List.drop_zero]
    have hlen := List.length_filterMap_le (gg u) y72.1
    have := ih N (i + 1) (acc ++ y72.1.filterMap (gg u)) (by omega) (by omega) (by simp; omega)
    rw [Int.natCast_add] at this
    refine Eq.trans this ?_
    simp
/-! ### The document's loops -/
section
variable {t : ref02_Train} {x : api_Echo} {m : Int}
def rg2 (t : ref02_Train) (x : api_Echo) (m k j : Int) : Option ref03_Guess :=
  if isw t x m 1 j = true ∧ nonempty (comm (spw t x m 0 k) (spw t x m 1 j)) = true then some ⟨(k, j), comm (spw t x m 0 k) (spw t x m 1 j)⟩ else none
def rg1 (t : ref02_Train) (x : api_Echo) (m k : Int) : Option ref03_Guess := if isw t x m 0 k = true then some ⟨(k, 0), spw t x m 0 k⟩ else none
theorem ref_inner (F : Nat) (h1 : hasT t 1) (hs : ∀ w, inB (stepOf x w) (-131072) 131072 = true) (hm : 1 ≤ m ∧ m ≤ 200000) (x8 : Int) (k4 : List ref03_Guess → Int → Option (List ref03_Guess × Int)) (k : Int) (h0 : isw t x m 0 k = true) :
    ∀ (n N : Nat) (j : Int) (acc : List ref03_Guess), j + n = 65 → -64 ≤ j → n < N → acc.length + n ≤ 1000000 →
    ref03_Guesses_L7 F t x m k k4 (spw t x m 0 k, isw t x m 0 k) N acc j = ref03_Guesses_K5 k k4 (acc ++ (kr n j).filterMap (rg2 t x m k)) := by
  have hk : t.Kind ≠ 1 := by rcases h1.2 with h | h; cases h; exact h.2
  have ht : ref03_times t = 2 := by unfold ref03_times; simp [hk, cond_eq_ite]
  intro n
  induction n with
  | zero =>
    intro N j acc hj hj2 hN hacc
    obtain ⟨N, rfl⟩ : ∃ N', N = N' + 1 := ⟨N - 1, by omega⟩
    show ref03_Guesses_B7 F t x m k k4 (spw t x m 0 k, isw t x m 0 k) (ref03_Guesses_L7 F t x m k k4 (spw t x m 0 k, isw t x m 0 k) N) acc j = _
    unfold ref03_Guesses_B7
    rw [bifF (by simp [cond_eq_ite]; intros; omega)]
    simp [kr]
  | succ n ih =>
    intro N j acc hj hj2 hN hacc
    obtain ⟨N, rfl⟩ : ∃ N', N = N' + 1 := ⟨N - 1, by omega⟩
    show ref03_Guesses_B7 F t x m k k4 (spw t x m 0 k, isw t x m 0 k) (ref03_Guesses_L7 F t x m k k4 (spw t x m 0 k, isw t x m 0 k) N) acc j = _
    unfold ref03_Guesses_B7
    rw [bifT (by simp [h0, ht]; omega), echo_eta, ref_sp F h1 hs (by omega) hm, sb, ref_common_eq]
    unfold ref03_Guesses_K8
    have hck : ∀ (l : List ref03_Guess), (ck (j + 1)).bind (fun x1022 => ref03_Guesses_L7 F t x m k k4 (spw t x m 0 k, isw t x m 0 k) N l x1022) = ref03_Guesses_L7 F t x m k k4 (spw t x m 0 k, isw t x m 0 k) N l (j + 1) := fun l => ckb (by omega)
    simp only [hck, span_eta]
    cases hw : isw t x m 1 j with
    | true =>
      cases hc : nonempty (comm (spw t x m 0 k) (spw t x m 1 j)) with
      | true =>
        refine Eq.trans (bifT hc) ?_
        rw [apdb (by simp; omega), ih N (j + 1) _ (by omega) (by omega) (by omega) (by simp; omega)]
        simp [kr, rg2, hw, hc]
      | false =>
        refine Eq.trans (bifF hc) ?_
        rw [ih N (j + 1) _ (by omega) (by omega) (by omega) (by omega)]
        simp [kr, rg2, hw, hc]
    | false =>
      refine Eq.trans (bifF rfl) ?_
      rw [ih N (j + 1) _ (by omega) (by omega) (by omega) (by omega)]
      simp [kr, rg2, hw]
/-- What is found for a number of turns of the first time. -/
def rgK (t : ref02_Train) (x : api_Echo) (m k : Int) : List ref03_Guess :=
  if t.Kind = 1 then (rg1 t x m k).toList else if isw t x m 0 k = true then (kr 129 (-64)).filterMap (rg2 t x m k) else []
theorem rgK_len (k : Int) : (rgK t x m k).length ≤ 129 := by
  unfold rgK
  split
  · cases rg1 t x m k <;> simp
  · split
    · have := List.length_filterMap_le (rg2 t x m k) (kr 129 (-64)); rw [kr_len] at this; exact this
    · simp
theorem ref_K6 (F : Nat) (hF : 2000 ≤ F) (h : trainE t = 0) (hs : ∀ w, inB (stepOf x w) (-131072) 131072 = true) (hm : 1 ≤ m ∧ m ≤ 200000) (k4 : List ref03_Guess → Int → Option (List ref03_Guess × Int)) (k : Int) (acc : List ref03_Guess) (hacc : acc.length ≤ 100000) :
    ref03_Guesses_K6 F t x m k k4 (spw t x m 0 k, isw t x m 0 k) acc = ref03_Guesses_K5 k k4 (acc ++ if t.Kind = 1 then [] else rgK t x m k) := by
  unfold ref03_Guesses_K6
  by_cases hk : t.Kind = 1
  · obtain ⟨N, rfl⟩ : ∃ N', F = N' + 1 := ⟨F - 1, by omega⟩
    show ref03_Guesses_B7 _ t x m k k4 _ _ acc _ = _
    unfold ref03_Guesses_B7
    rw [bifF (by unfold ref03_times; simp [hk, cond_eq_ite])]
    simp [hk]
  · cases h0 : isw t x m 0 k with
    | false =>
      obtain ⟨N, rfl⟩ : ∃ N', F = N' + 1 := ⟨F - 1, by omega⟩
      show ref03_Guesses_B7 _ t x m k k4 _ _ acc _ = _
      unfold ref03_Guesses_B7
      rw [bifF rfl]
      simp [hk, rgK, h0]
    | true =>
      have := ref_inner F ⟨h, .inr ⟨rfl, hk⟩⟩ hs hm k k4 k h0 129 F (-64) acc (by omega) (by omega) (by omega) (by omega)
      rw [h0] at this
      refine Eq.trans this ?_
      simp [hk, rgK, h0]
theorem ref_loop (F : Nat) (hF : 2000 ≤ F) (h : trainE t = 0) (hs : ∀ w, inB (stepOf x w) (-131072) 131072 = true) (hm : 1 ≤ m ∧ m ≤ 200000) : ∀ (n N : Nat) (k : Int) (acc : List ref03_Guess), k + n = 65 → -64 ≤ k → n < N → acc.length + n * 200 ≤ 100000 →
    ref03_Guesses_L4 F t x m N acc k = some (acc ++ (kr n k).flatMap (rgK t x m), 0) := by
  intro n
  induction n with
  | zero =>
    intro N k acc hk hk2 hN hacc
    obtain ⟨N, rfl⟩ : ∃ N', N = N' + 1 := ⟨N - 1, by omega⟩
    show ref03_Guesses_B4 F t x m (ref03_Guesses_L4 F t x m N) acc k = _
    unfold ref03_Guesses_B4
    rw [bifF (by simp; omega)]
    simp [kr, ref03_Guesses_K3]
  | succ n ih =>
    intro N k acc hk hk2 hN hacc
    obtain ⟨N, rfl⟩ : ∃ N', N = N' + 1 := ⟨N - 1, by omega⟩
    show ref03_Guesses_B4 F t x m (ref03_Guesses_L4 F t x m N) acc k = _
    unfold ref03_Guesses_B4
    have hlen := rgK_len (t := t) (x := x) (m := m) k
    rw [bifT (by simp; omega), echo_eta, ref_sp F ⟨h, .inl rfl⟩ hs (by omega) hm, sb]
    by_cases h1 : t.Kind = 1
    · have ht : ref03_times t = 1 := by unfold ref03_times; simp [h1]
      cases h0 : isw t x m 0 k with
      | true =>
        refine Eq.trans (bifT (by rw [ht]; rfl)) ?_
        rw [apdb (by simp; omega)]
        have h6 := ref_K6 F hF h hs hm (ref03_Guesses_L4 F t x m N) k (acc ++ [⟨(k, 0), spw t x m 0 k⟩]) (by simp; omega)
        rw [h0] at h6
        refine Eq.trans h6 ?_
        unfold ref03_Guesses_K5
        rw [ckb (by omega), ih N (k + 1) _ (by omega) (by omega) (by omega) (by simp [h1]; omega)]
        simp [kr, rgK, rg1, h1, h0]
      | false =>
        refine Eq.trans (bifF rfl) ?_
        have h6 := ref_K6 F hF h hs hm (ref03_Guesses_L4 F t x m N) k acc (by omega)
        rw [h0] at h6
        refine Eq.trans h6 ?_
        unfold ref03_Guesses_K5
        rw [ckb (by omega), ih N (k + 1) _ (by omega) (by omega) (by omega) (by simp [h1]; omega)]
        simp [kr, rgK, rg1, h1, h0]
    · have ht : ref03_times t = 2 := by unfold ref03_times; simp [h1, cond_eq_ite]
      refine Eq.trans (bifF (by rw [ht]; cases isw t x m 0 k <;> rfl)) ?_
      rw [ref_K6 F hF h hs hm (ref03_Guesses_L4 F t x m N) k acc (by omega), if_neg h1]
      unfold ref03_Guesses_K5
      rw [ckb (by omega), ih N (k + 1) _ (by omega) (by omega) (by omega) (by simp; omega)]
      simp [kr]
end
end Go.Proofs.Ytbhjgebjojdohaa
/- Chapter 3, plain: the law FoldGuesses. -/
namespace Go.Proofs.Ytbhjgebjojdohaa
open Go Go.RowKit Go.Eng
set_option maxRecDepth 10000
set_option linter.unusedVariables false
set_option linter.unusedSimpArgs false
def conv (g : fold_Guess) : ref03_Guess := ⟨g.Whole, g.Speed⟩
theorem flatMap_fm {α β γ : Type} (f : α → Option β) (g : β → List γ) : ∀ (l : List α), (l.filterMap f).flatMap g = l.flatMap (fun a => match f a with | some b => g b | none => []) := by
  intro l
  induction l with
  | nil => rfl
  | cons a l ih => cases h : f a <;> simp [h, ih]
theorem flatMap_opt {α β : Type} (f : α → Option β) : ∀ (l : List α), l.flatMap (fun a => (f a).toList) = l.filterMap f := by
  intro l
  induction l with
  | nil => rfl
  | cons a l ih => cases h : f a <;> simp [h, ih]
section
variable {t : ref02_Train} {x : api_Echo} {m : Int}
theorem same_one (h : t.Kind = 1) : ((opts t x m 0).map (fun f => (⟨(f.whole, 0), f.speed⟩ : fold_Guess))).map conv = (kr 129 (-64)).flatMap (rgK t x m) := by
  have e : (rgK t x m) = fun k => (rg1 t x m k).toList := by funext k; simp [rgK, h]
  rw [e, flatMap_opt]
  unfold opts
  rw [List.map_map, List.map_filterMap]
  congr 1
  funext k
  unfold og rg1
  split <;> rfl
theorem same_two (h : t.Kind ≠ 1) : ((opts t x m 0).flatMap (fun u => (opts t x m 1).filterMap (gg u))).map conv = (kr 129 (-64)).flatMap (rgK t x m) := by
  rw [List.map_flatMap]
  unfold opts
  rw [flatMap_fm]
  congr 1
  funext k
  unfold og rgK
  rw [if_neg h]
  cases h0 : isw t x m 0 k with
  | false => rfl
  | true =>
    simp only [if_true]
    rw [List.map_filterMap, List.filterMap_filterMap]
    congr 1
    funext j
    unfold rg2
    cases h1 : isw t x m 1 j with
    | false => rfl
    | true =>
      simp only [if_true, true_and, Option.bind_some]
      unfold gg
      simp only
      split <;> rfl
theorem prog_len : (((opts t x m 0).flatMap (fun u => (opts t x m 1).filterMap (gg u)))).length ≤ 129 * 129 := by
  have h1 := opts_len (t := t) (x := x) (m := m) (w := 0)
  have h2 := opts_len (t := t) (x := x) (m := m) (w := 1)
  generalize opts t x m 0 = L0 at *
  generalize opts t x m 1 = L1 at *
  have : (L0.flatMap (fun u => L1.filterMap (gg u))).length ≤ L0.length * 129 := by
    clear h1
    induction L0 with
    | nil => simp
    | cons a l ih =>
      have := List.length_filterMap_le (gg a) L1
      simp [Nat.add_mul] at ih ⊢
      omega
  omega
def badW (t : ref02_Train) (x : api_Echo) (m w : Int) : Prop := isw t x m w (-64) = true ∨ isw t x m w 64 = true
instance (w : Int) : Decidable (badW t x m w) := by unfold badW; infer_instance
theorem L9_s (F n : Nat) (k : Int) : ref03_Guesses_L9 F t x m (n + 1) k = ref03_Guesses_B9 F t x m (ref03_Guesses_L9 F t x m n) k := rfl
theorem b9_step (F : Nat) (k9 : Int → Option (List ref03_Guess × Int)) {w : Int} (h : hasT t w) (hs : ∀ w, inB (stepOf x w) (-131072) 131072 = true) (hm : 1 ≤ m ∧ m ≤ 200000) :
    ref03_Guesses_B9 F t x m k9 w = if badW t x m w then some ([], 9) else k9 (w + 1) := by
  have hw : 0 ≤ w ∧ w ≤ 1 := by rcases h.2 with h | ⟨h, _⟩ <;> omega
  have ht : decide (w < ref03_times t) = true := by
    unfold ref03_times
    rcases h.2 with h | ⟨h, h2⟩
    · subst h; cases t.Kind == 1 <;> rfl
    · subst h; simp [h2, cond_eq_ite]
  have hck : ∀ {β : Type} (f : Int → Option β), (ck (w + 1)).bind f = f (w + 1) := fun f => ckb (by omega)
  unfold ref03_Guesses_B9
  rw [bifT ht, echo_eta, ref_sp _ h hs (by omega) hm, sb, ref_sp _ h hs (by omega) hm, sb, hck]
  by_cases hb : badW t x m w
  · rw [if_pos hb]
    refine bifT ?_
    rcases hb with h | h <;> simp [h]
  · rw [if_neg hb]
    refine bifF ?_
    unfold badW at hb
    simp only [not_or, Bool.not_eq_true] at hb
    simp [hb]
theorem b9_end (F : Nat) (k9 : Int → Option (List ref03_Guess × Int)) {w : Int} (hw : ref03_times t ≤ w) : ref03_Guesses_B9 F t x m k9 w = ref03_Guesses_K2 F t x m := by
  unfold ref03_Guesses_B9
  rw [bifF (by simp; omega)]
theorem k2_eq (F : Nat) (hF : 2000 ≤ F) (h : trainE t = 0) (hs : ∀ w, inB (stepOf x w) (-131072) 131072 = true) (hm : 1 ≤ m ∧ m ≤ 200000) : ref03_Guesses_K2 F t x m = some ((kr 129 (-64)).flatMap (rgK t x m), 0) := by
  unfold ref03_Guesses_K2
  rw [ref_loop F hF h hs hm 129 F (-64) [] (by omega) (by omega) (by omega) (by simp), List.nil_append]
/-- The document's guesses, where all is valid. -/
theorem ref_valid (F : Nat) (hF : 2000 ≤ F) (h : trainE t = 0) (hs : ∀ w, inB (stepOf x w) (-131072) 131072 = true) (hm : 1 ≤ m ∧ m ≤ 200000) :
    ref03_Guesses_L9 F t x m F 0 = some (if badW t x m 0 ∨ (t.Kind ≠ 1 ∧ badW t x m 1) then ([], 9) else ((kr 129 (-64)).flatMap (rgK t x m), 0)) := by
  have hK := k2_eq F hF h hs hm
  obtain ⟨N, hN⟩ : ∃ N', F = N' + 3 := ⟨F - 3, by omega⟩
  have e : ref03_Guesses_L9 F t x m F 0 = ref03_Guesses_L9 F t x m (N + 3) 0 := by rw [← hN]
  rw [e, L9_s, b9_step F _ ⟨h, .inl rfl⟩ hs hm]
  by_cases h0 : badW t x m 0
  · rw [if_pos h0, if_pos (Or.inl h0)]
  · rw [if_neg h0, L9_s]
    by_cases h1 : t.Kind = 1
    · have ht : ref03_times t = 1 := by unfold ref03_times; simp [h1]
      rw [b9_end F _ (by omega), hK, if_neg (by simp [h0, h1])]
    · have ht : ref03_times t = 2 := by unfold ref03_times; simp [h1, cond_eq_ite]
      have hT : hasT t (0 + 1) := ⟨h, .inr ⟨by omega, h1⟩⟩
      rw [b9_step F _ hT hs hm]
      by_cases h2 : badW t x m 1
      · rw [if_pos (show badW t x m (0 + 1) from h2), if_pos (Or.inr ⟨h1, h2⟩)]
      · rw [if_neg (show ¬ badW t x m (0 + 1) from h2), L9_s, b9_end F _ (by omega), hK, if_neg (by simp [h0, h2])]
theorem prog_valid (F : Nat) (hF : 2000 ≤ F) (h : trainE t = 0) (hs : ∀ w, inB (stepOf x w) (-131072) 131072 = true) (hm : 1 ≤ m ∧ m ≤ 200000) :
    ∃ l b, fold_guesses F (pt t) x m = some (l, b) ∧ b = decide (¬ (badW t x m 0 ∨ (t.Kind ≠ 1 ∧ badW t x m 1))) ∧ (b = true → l.map conv = (kr 129 (-64)).flatMap (rgK t x m) ∧ l.length ≤ 129 * 129) := by
  have ho := opts_len (t := t) (x := x) (m := m) (w := 0)
  have ho1 := opts_len (t := t) (x := x) (m := m) (w := 1)
  unfold fold_guesses
  rw [echo_eta, list_eq F (by omega) ⟨h, .inl rfl⟩ hs hm, sb]
  by_cases h0 : badW t x m 0
  · rw [if_pos (show isw t x m 0 (-64) = true ∨ isw t x m 0 64 = true from h0)]
    exact ⟨_, _, rfl, by simp [h0], by simp⟩
  · rw [if_neg (show ¬ (isw t x m 0 (-64) = true ∨ isw t x m 0 64 = true) from h0)]
    have e1 : ∀ {β : Type} (a b : β), (bif !(true : Bool) then a else b) = b := fun _ _ => rfl
    simp only [e1]
    by_cases h1 : t.Kind = 1
    · rw [bifT (by simpa [pt] using h1)]
      have := one_loop (opts t x m 0, true) (by simp; omega) (opts t x m 0).length F 0 [] (by simp) (by omega) (by simp; omega)
      refine ⟨_, _, this, by simp [h0, h1], fun _ => ⟨?_, ?_⟩⟩
      · simp only [List.nil_append, List.drop_zero]
        exact same_one h1
      · simp; omega
    · rw [bifF (by simpa [pt] using h1)]
      unfold fold_guesses_K1
      rw [echo_eta, list_eq F (by omega) ⟨h, .inr ⟨rfl, h1⟩⟩ hs hm, sb]
      by_cases h2 : badW t x m 1
      · rw [if_pos (show isw t x m 1 (-64) = true ∨ isw t x m 1 64 = true from h2)]
        have := two_loop F hF (opts t x m 0, true) ([], false) (by simp; omega) (by simp) (opts t x m 0).length F 0 [] (by simp) (by omega) (by simp; omega)
        refine ⟨_, _, this, by simp [h1, h2], by simp⟩
      · rw [if_neg (show ¬ (isw t x m 1 (-64) = true ∨ isw t x m 1 64 = true) from h2)]
        have := two_loop F hF (opts t x m 0, true) (opts t x m 1, true) (by simp; omega) (by simp; omega) (opts t x m 0).length F 0 [] (by simp) (by omega) (by simp; omega)
        refine ⟨_, _, this, by simp [h0, h2], fun _ => ⟨?_, ?_⟩⟩
        · simp only [List.nil_append, List.drop_zero]
          exact same_two h1
        · simp only [List.nil_append, List.drop_zero]
          exact prog_len
end
theorem guesses_eq (F : Nat) (hF : 2000 ≤ F) (t : ref02_Train) (x : api_Echo) (m : Int) : ∃ a e, fold_Guesses F (pt t) x m = some (a, e) ∧ ref03_Guesses F t x m = some (a.map conv, e) ∧ a.length ≤ 129 * 129 := by
  unfold fold_Guesses ref03_Guesses
  rw [pulse_train, ref_train, sb, sb, echo_eta]
  have c0 : ((0 : Int) != 0) = false := rfl
  have c1 : ((0 : Int) == 0) = true := rfl
  by_cases h1 : trainE t = 0
  · rw [h1, c0, c1, cond_false, cond_true, pulse_echo F (by omega), ref_echo, sb, sb]
    unfold ref03_Guesses_K1
    by_cases h2 : echoE x = 0
    · rw [h2, c0, cond_false, cond_false]
      have hb : fold_bound m = decide (1 ≤ m ∧ m ≤ 200000) := by unfold fold_bound; rw [Bool.eq_iff_iff]; simp [cond_eq_ite]
      rw [hb]
      by_cases h3 : 1 ≤ m ∧ m ≤ 200000
      · by_cases h4 : x.Kind = 3
        · rw [bifF (by simp; omega), bifF (by simpa using h4), bifF (by simp [cond_eq_ite]; omega), bifF (by simpa using h4)]
          have hs := clear_steps h2 h4
          obtain ⟨l, b, hl, hb, hl2⟩ := prog_valid F hF h1 hs h3
          rw [hl, sb, ref_valid F hF h1 hs h3]
          by_cases hbad : badW t x m 0 ∨ (t.Kind ≠ 1 ∧ badW t x m 1)
          · rw [if_pos hbad]
            have : b = false := by rw [hb]; simp only [decide_eq_false_iff_not, Decidable.not_not]; exact hbad
            subst this
            exact ⟨[], 9, rfl, rfl, by simp⟩
          · rw [if_neg hbad]
            have : b = true := by rw [hb]; simp only [decide_eq_true_eq]; exact hbad
            rw [this]
            obtain ⟨e1, e2⟩ := hl2 this
            exact ⟨l, 0, rfl, by rw [e1], e2⟩
        · rw [bifF (by simp; omega), bifT (by simpa using h4), bifF (by simp [cond_eq_ite]; omega), bifT (by simpa using h4)]
          exact ⟨[], 18, rfl, rfl, by simp⟩
      · rw [bifT (by simp; omega), bifT (by simp [cond_eq_ite]; omega)]
        exact ⟨[], 3, rfl, rfl, by simp⟩
    · rw [bifT (by simpa using h2), bifT (by simpa using h2)]
      exact ⟨[], _, rfl, rfl, by simp⟩
  · rw [bifT (by simpa using h1), bifF (by simpa using h1)]
    unfold ref03_Guesses_K1
    rw [bifT (by simpa using h1)]
    exact ⟨[], _, rfl, rfl, by simp⟩
theorem law_loop (a : List fold_Guess) (ha : a.length ≤ 100000) : ∀ (n N i : Nat), i + n = a.length → n < N → law03_guesses_L2 a (a.map conv) N (i : Int) = some true := by
  intro n
  induction n with
  | zero =>
    intro N i hi hN
    obtain ⟨N, rfl⟩ : ∃ N', N = N' + 1 := ⟨N - 1, by omega⟩
    show law03_guesses_B2 a (a.map conv) (law03_guesses_L2 a (a.map conv) N) (i : Int) = _
    unfold law03_guesses_B2
    rw [bifF (by simp; omega)]
    rfl
  | succ n ih =>
    intro N i hi hN
    obtain ⟨N, rfl⟩ : ∃ N', N = N' + 1 := ⟨N - 1, by omega⟩
    show law03_guesses_B2 a (a.map conv) (law03_guesses_L2 a (a.map conv) N) (i : Int) = _
    unfold law03_guesses_B2
    have hg : (a.map conv).getD i default = conv (a.getD i default) := by
      rw [List.getD_eq_getElem?_getD, List.getD_eq_getElem?_getD, List.getElem?_map, List.getElem?_eq_getElem (by omega : i < a.length)]; rfl
    rw [bifT (by simp; omega), getb default (by omega), getb default (by simp; omega), Int.toNat_natCast, hg]
    obtain ⟨u, hu⟩ : ∃ u, a.getD i default = u := ⟨_, rfl⟩
    rw [hu]
    have e : (((u.Whole.1 : Int) == (conv u).Whole.1) && (((u.Whole.2 : Int) == (conv u).Whole.2) && true)) = true := by simp [conv]
    rw [e, gdT (g := (!true) == false && true) rfl, getb default (by omega), gdT (g := (!true) == false && true) rfl, getb default (by simp; omega), Int.toNat_natCast, hg, hu]
    have e2 : (bif !(true : Bool) then true else !(((u.Speed.Lo : Int) == (conv u).Speed.Lo) && (((u.Speed.Hi : Int) == (conv u).Speed.Hi) && true))) = false := by simp [conv]
    rw [bifF e2, ckb (by omega)]
    have := ih N (i + 1) (by omega) (by omega)
    rw [Int.natCast_add] at this
    exact this
theorem law_ok (F : Nat) (a : List fold_Guess) (ha : a.length ≤ 129 * 129) (hF : 129 * 129 < F) : law03_guesses F a (a.map conv) = some true := by
  unfold law03_guesses
  rw [bifF (by simp)]
  exact law_loop a (by omega) a.length F 0 (by omega) (by omega)
theorem window_eq (F : Nat) (t : ref02_Train) (w s : Int) : ∃ r, fold_Window F (pt t) w s = some r ∧ ref03_Window F t w s = some r := by
  have hb : 0 ≤ (timeE t w).1 ∧ (timeE t w).1 ≤ 5000 := by
    unfold timeE
    by_cases h : trainE t = 0
    · have hk := trainE_ok h
      unfold okTrain at hk
      simp only [decide_eq_true_eq] at hk
      rw [if_neg (by simpa using h)]
      split
      · simp; omega
      · split
        · simp; omega
        · simp
    · rw [if_pos h]; simp
  unfold fold_Window ref03_Window pulse_Reach ref02_Reach
  rw [pulse_time, ref_time, sb, ckb (by omega), sb]
  by_cases h : (timeE t w).2 = 0
  · rw [bifF (by simpa using h)]
    by_cases h2 : s < 1 ∨ s > 2000
    · rw [bifT (by simpa [cond_eq_ite] using h2)]
      exact ⟨_, rfl, rfl⟩
    · rw [bifF (by simp [cond_eq_ite]; omega), (quo_pos (by omega) (by omega)).1, sb]
      exact ⟨_, rfl, rfl⟩
  · rw [bifT (by simpa using h)]
    exact ⟨_, rfl, rfl⟩
theorem FoldGuesses_eq (F : Nat) (hF : 129 * 129 < F) (t : ref02_Train) (x : api_Echo) (m w s : Int) : law03_FoldGuesses F t x m w s = some true := by
  obtain ⟨a, e, h1, h2, h3⟩ := guesses_eq F (by omega) t x m
  obtain ⟨r, h4, h5⟩ := window_eq F t w s
  unfold law03_FoldGuesses
  rw [echo_eta]
  rw [show (pulse_Train.mk t.Lambda t.Kind t.First t.Second t.Count) = pt t from rfl, h1, sb, h2, sb, law_ok F a h3 hF, sb, bifF (by simp), h4, sb, h5, sb]
  simp [law03_works]
end Go.Proofs.Ytbhjgebjojdohaa
