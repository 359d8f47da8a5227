/- Chapter 3, plain: trains, echoes and speeds of the program are those of the document. -/
import Derived.Test.YtbhjgebjojdohaaF8XD
namespace Go.Proofs.Ytbhjgebjojdohaa
open Go Go.RowKit Go.Eng
set_option maxRecDepth 10000
set_option linter.unusedVariables false
set_option linter.unusedSimpArgs false
theorem ckb {β : Type} {x : Int} {f : Int → Option β} (h : -9000000000000000000 ≤ x ∧ x ≤ 9000000000000000000) : (ck x).bind f = f x := by
  unfold ck; rw [if_pos (by omega)]; rfl
theorem ck1 {x : Int} (h : -9000000000000000000 ≤ x ∧ x ≤ 9000000000000000000) : ck x = some x := by
  unfold ck; rw [if_pos (by omega)]
theorem gdT {α : Type} {g : Bool} {o : Option α} {d : α} (h : g = true) : gd g o d = o := by subst h; rfl
theorem gdF {α : Type} {g : Bool} {o : Option α} {d : α} (h : g = false) : gd g o d = some d := by subst h; rfl
theorem bifT {α : Type} {c : Bool} {x y : α} (h : c = true) : (bif c then x else y) = x := by rw [h]; rfl
theorem bifF {α : Type} {c : Bool} {x y : α} (h : c = false) : (bif c then x else y) = y := by rw [h]; rfl
theorem sb {α β : Type} {x : α} {f : α → Option β} : (some x).bind f = f x := rfl
theorem getb {α β : Type} {l : List α} {i : Int} {f : α → Option β} (d : α) (h : 0 ≤ i ∧ i < l.length) : (getI l i).bind f = f (l.getD i.toNat d) := by
  unfold getI
  rw [if_pos h.1, List.getElem?_eq_getElem (by omega), List.getD_eq_getElem?_getD, List.getElem?_eq_getElem (by omega)]
  rfl
theorem apdb {α β : Type} {l k : List α} {B : Nat} {f : List α → Option β} (h : (l.length + k.length) * B ≤ 140737488355328 ∧ l.length + k.length ≤ 9223372036854775807) : (apd B l k).bind f = f (l ++ k) := by
  unfold apd
  rw [if_pos h]
  rfl
def pt (t : ref02_Train) : pulse_Train := ⟨t.Lambda, t.Kind, t.First, t.Second, t.Count⟩
/-- What a valid train is. -/
def okTrain (t : ref02_Train) : Bool :=
  decide (10000 ≤ t.Lambda ∧ t.Lambda ≤ 1000000 ∧ 200 ≤ t.First ∧ t.First ≤ 5000 ∧ t.Count ≤ 64 ∧
    ((t.Kind = 1 ∧ t.Second = 0 ∧ 2 ≤ t.Count) ∨ (t.Kind = 2 ∧ t.Count.tmod 2 = 0 ∧ 4 ≤ t.Count ∧ 200 ≤ t.Second ∧ t.Second ≤ 5000 ∧ t.First < t.Second) ∨
      (t.Kind = 3 ∧ 3 ≤ t.Count ∧ 200 ≤ t.Second ∧ t.Second ≤ 5000 ∧ t.First < t.Second)))
def trainE (t : ref02_Train) : Int := if t.Kind ≠ 1 ∧ t.Kind ≠ 2 ∧ t.Kind ≠ 3 then 2 else if okTrain t = true then 0 else 3
theorem rem2 (x : Int) : remC x 2 = some (x.tmod 2) := rfl
theorem pulse_train (F : Nat) (t : ref02_Train) : pulse_CheckTrain F (pt t) = some (trainE t) := by
  unfold pulse_CheckTrain pulse_CheckTrain_K1 pulse_CheckTrain_K2 trainE okTrain pulse_within pt
  simp only [rem2, Option.bind_some]
  by_cases h1 : t.Kind = 1
  · simp [h1, cond_eq_ite]; grind
  · by_cases h2 : t.Kind = 2
    · simp [h2, cond_eq_ite]; grind
    · by_cases h3 : t.Kind = 3
      · simp [h3, cond_eq_ite]; grind
      · simp [h1, h2, h3, cond_eq_ite]
/-- How steps turn. -/
def turnB (s : api_Span) : Bool := decide (-32768 ≤ s.Lo ∧ s.Lo ≤ 32767 ∧ s.Lo ≤ s.Hi ∧ s.Hi ≤ s.Lo + 65535)
theorem turning_step (p : List api_Span) (k : Int → Option Bool) (i : Nat) (s : api_Span) (h : p[i]? = some s) (hi : i < 1000) : pulse_turning_B2 p k (i : Int) = if turnB s then k ((i : Int) + 1) else some false := by
  have hl := (List.getElem?_eq_some_iff.1 h).1
  unfold pulse_turning_B2
  rw [bifT (by simpa using hl), getb s (by omega)]
  simp only [List.getD_eq_getElem?_getD, Int.toNat_natCast, h, Option.getD_some]
  unfold turnB pulse_within
  by_cases hw : -32768 ≤ s.Lo ∧ s.Lo ≤ 32767
  · have e : (bif decide (-32768 ≤ s.Lo) then decide (s.Lo ≤ 32767) else false) = true := by simp [hw.1, hw.2]
    rw [e, gdT (g := (!true) == false && true) rfl, ckb (by omega), gdT (g := (!true) == false && true) rfl, ckb (by omega), ckb (by omega)]
    have e2 : s.Lo + 65536 - 1 = s.Lo + 65535 := by omega
    rw [e2]
    by_cases h2 : s.Lo ≤ s.Hi ∧ s.Hi ≤ s.Lo + 65535
    · rw [if_pos (by simp [hw, h2])]; simp [h2]
    · rw [if_neg (by simp; intro _ _ h3; omega)]
      have : (bif decide (s.Lo ≤ s.Hi) then decide (s.Hi ≤ s.Lo + 65535) else false) = false := by simp [cond_eq_ite]; omega
      rw [this]; rfl
  · have e : (bif decide (-32768 ≤ s.Lo) then decide (s.Lo ≤ 32767) else false) = false := by simp [cond_eq_ite]; omega
    rw [e, gdF (g := (!false) == false && true) rfl, sb, gdF (g := (!false) == false && true) rfl, sb, if_neg (by simp; intro h1 h2; omega)]
    rfl
theorem pulse_turning_eq (F : Nat) (hF : 4 ≤ F) (a b c : api_Span) : pulse_turning F [a, b, c] = some (turnB a && turnB b && turnB c) := by
  obtain ⟨n, rfl⟩ : ∃ n, F = n + 4 := ⟨F - 4, by omega⟩
  show pulse_turning_B2 [a, b, c] (pulse_turning_L2 [a, b, c] (n + 3)) ((0 : Nat) : Int) = _
  rw [turning_step _ _ 0 a rfl (by omega)]
  cases ha : turnB a
  · rfl
  · show pulse_turning_B2 [a, b, c] (pulse_turning_L2 [a, b, c] (n + 2)) ((1 : Nat) : Int) = _
    rw [turning_step _ _ 1 b rfl (by omega)]
    cases hb : turnB b
    · rfl
    · show pulse_turning_B2 [a, b, c] (pulse_turning_L2 [a, b, c] (n + 1)) ((2 : Nat) : Int) = _
      rw [turning_step _ _ 2 c rfl (by omega)]
      cases hc : turnB c
      · rfl
      · rfl
/-- What a valid echo is. -/
def inB (s : api_Span) (lo hi : Int) : Bool := decide (lo ≤ s.Lo ∧ s.Lo ≤ s.Hi ∧ s.Hi ≤ hi)
def noB (s : api_Span) : Bool := decide (s.Lo = 0 ∧ s.Hi = 0)
def okEcho (x : api_Echo) : Bool :=
  inB x.Power 0 1073741824 && (if x.Kind = 1 then decide (x.Power.Lo = 0) && noB x.Steps.1 && noB x.Steps.2 && decide (x.Spread = 0) && noB x.Ratio && noB x.Match && noB x.Turn
    else decide (1 ≤ x.Power.Lo) && inB x.Ratio 0 1000000 && inB x.Match 0 1000 && decide (0 ≤ x.Spread ∧ x.Spread ≤ 65535) &&
      (if x.Kind = 2 then noB x.Steps.1 && noB x.Steps.2 && noB x.Turn else turnB x.Steps.1 && turnB x.Steps.2 && turnB x.Turn))
def echoE (x : api_Echo) : Int := if x.Kind ≠ 1 ∧ x.Kind ≠ 2 ∧ x.Kind ≠ 3 then 2 else if okEcho x = true then 0 else 3
theorem inside_in (s : api_Span) (lo hi : Int) : pulse_inside s lo hi = inB s lo hi := by
  unfold pulse_inside inB; rw [Bool.eq_iff_iff]; simp [cond_eq_ite]; omega
theorem no_eq (s : api_Span) : (((s.Lo : Int) == 0) && (((s.Hi : Int) == 0) && true)) = noB s := by
  unfold noB; rw [Bool.eq_iff_iff]; simp
theorem span_eta (s : api_Span) : api_Span.mk s.Lo s.Hi = s := rfl
theorem echo_eta (p1 : api_Echo) : (api_Echo.mk p1.Kind p1.Power ((api_Span.mk p1.Steps.1.Lo p1.Steps.1.Hi), (api_Span.mk p1.Steps.2.Lo p1.Steps.2.Hi)) p1.Spread p1.Ratio p1.Match p1.Turn) = p1 := rfl
theorem pulse_echo (F : Nat) (hF : 4 ≤ F) (x : api_Echo) : pulse_CheckEcho F x = some (echoE x) := by
  unfold pulse_CheckEcho pulse_CheckEcho_K1 pulse_CheckEcho_K2 pulse_CheckEcho_K1 echoE okEcho pulse_within
  simp only [span_eta, inside_in, no_eq, pulse_turning_eq F hF, Option.bind_some]
  by_cases h1 : x.Kind = 1
  · simp [h1, cond_eq_ite]; grind
  · by_cases h2 : x.Kind = 2
    · simp [h2, cond_eq_ite]; grind
    · by_cases h3 : x.Kind = 3
      · simp [h3, cond_eq_ite]; grind
      · simp [h1, h2, h3, cond_eq_ite]
/-! ### Quotients -/
theorem quo_pos {x y : Int} (hx : -4000000000000000000 ≤ x ∧ x ≤ 4000000000000000000) (hy : 0 < y) : quoC x y = some (x.tdiv y) ∧ (x.tdiv y ≤ 4000000000000000000 ∧ -4000000000000000000 ≤ x.tdiv y) := by
  have hb : x.tdiv y ≤ 4000000000000000000 ∧ -4000000000000000000 ≤ x.tdiv y := by
    have h := Int.natAbs_tdiv_le_natAbs x y
    omega
  refine ⟨?_, hb⟩
  unfold quoC
  rw [if_neg (by omega), ck1 (by omega)]
theorem tdiv_floor (x y : Int) (hy : 0 < y) : x / y = if x.tmod y < 0 then x.tdiv y - 1 else x.tdiv y := by
  have h1 := Int.tmod_add_mul_tdiv x y
  have h2 : x.tmod y < y := by
    rcases Int.le_total 0 x with h | h
    · exact Int.tmod_lt_of_pos x hy
    · exact Int.tmod_lt_of_pos x hy
  have h3 : -y < x.tmod y := by
    have := Int.tmod_lt_of_pos (-x) hy
    rw [Int.neg_tmod] at this
    omega
  split
  · rename_i h
    apply Int.le_antisymm
    · apply Int.le_of_lt_add_one
      apply Int.ediv_lt_of_lt_mul hy
      have : (x.tdiv y - 1 + 1) * y = y * x.tdiv y := by rw [Int.sub_add_cancel, Int.mul_comm]
      omega
    · apply Int.le_ediv_of_mul_le hy
      have : (x.tdiv y - 1) * y = y * x.tdiv y - y := by rw [Int.sub_mul, Int.one_mul, Int.mul_comm]
      omega
  · rename_i h
    apply Int.le_antisymm
    · apply Int.le_of_lt_add_one
      apply Int.ediv_lt_of_lt_mul hy
      have : (x.tdiv y + 1) * y = y * x.tdiv y + y := by rw [Int.add_mul, Int.one_mul, Int.mul_comm]
      omega
    · apply Int.le_ediv_of_mul_le hy
      have : x.tdiv y * y = y * x.tdiv y := Int.mul_comm ..
      omega
theorem down_pulse (F : Nat) {x y : Int} (hx : -4000000000000000000 ≤ x ∧ x ≤ 4000000000000000000) (hy : 0 < y) : pulse_down F x y = some (x / y) := by
  obtain ⟨h, hb⟩ := quo_pos hx hy
  have h1 := Int.tmod_add_mul_tdiv x y
  have hm : x.tdiv y * y = y * x.tdiv y := Int.mul_comm ..
  have h2 := Int.tmod_lt_of_pos x hy
  have h3 : x.natAbs.mod y.natAbs ≤ x.natAbs := Nat.mod_le _ _
  have h4 : (x.tmod y).natAbs ≤ x.natAbs := by rw [Int.natAbs_tmod]; exact h3
  unfold pulse_down
  rw [h, sb, ckb (by omega), tdiv_floor x y hy]
  by_cases hc : x.tmod y < 0
  · rw [if_pos hc, bifT (by simp; omega), ckb (by omega)]
  · rw [if_neg hc, bifF (by simp; omega)]
theorem down_ref (F : Nat) {x y : Int} (hx : -4000000000000000000 ≤ x ∧ x ≤ 4000000000000000000) (hy : 0 < y) : ref01_Down F x y = some (x / y) := by
  obtain ⟨h, hb⟩ := quo_pos hx hy
  unfold ref01_Down
  rw [h, sb]
  unfold remC
  rw [if_neg (by omega), sb, tdiv_floor x y hy]
  by_cases hc : x.tmod y < 0
  · rw [if_pos hc, bifT (by simpa using hc), ckb (by omega)]
  · rw [if_neg hc, bifF (by simpa using hc)]
theorem div_bd {x y : Int} (hx : -4000000000000000000 ≤ x ∧ x ≤ 4000000000000000000) (hy : 0 < y) : -4000000000000000001 ≤ x / y ∧ x / y ≤ 4000000000000000000 := by
  have := (quo_pos hx hy).2
  rw [tdiv_floor x y hy]
  split <;> omega
theorem neg_wrap {x : Int} (hx : -4000000000000000001 ≤ x ∧ x ≤ 4000000000000000001) : IntKind.i64.wrap (0 - x) = -x := by
  rw [Go.Eng.wrap64 (by omega)]; omega
theorem up_pulse (F : Nat) {x y : Int} (hx : -4000000000000000000 ≤ x ∧ x ≤ 4000000000000000000) (hy : 0 < y) : pulse_up F x y = some (-(-x / y)) := by
  have := div_bd (x := -x) (y := y) (by omega) hy
  unfold pulse_up
  rw [neg_wrap (by omega), down_pulse F (by omega) hy, sb, neg_wrap (by omega)]
end Go.Proofs.Ytbhjgebjojdohaa
/- Chapter 3, plain: times and speeds. -/
namespace Go.Proofs.Ytbhjgebjojdohaa
open Go Go.RowKit Go.Eng
set_option maxRecDepth 10000
set_option linter.unusedVariables false
set_option linter.unusedSimpArgs false
def timeE (t : ref02_Train) (w : Int) : Int × Int :=
  if trainE t ≠ 0 then (0, trainE t) else if w = 0 then (t.First, 0) else if w = 1 ∧ t.Kind ≠ 1 then (t.Second, 0) else (0, 2)
theorem trainE_ok {t : ref02_Train} (h : trainE t = 0) : okTrain t = true := by
  unfold trainE at h
  split at h
  · cases h
  · split at h
    · assumption
    · cases h
theorem pulse_time (F : Nat) (t : ref02_Train) (w : Int) : pulse_Train_time F (pt t) w = some (timeE t w) := by
  unfold pulse_Train_time timeE
  rw [pulse_train, sb]
  by_cases h : trainE t = 0
  · have hk := trainE_ok h
    unfold okTrain at hk
    simp only [decide_eq_true_eq] at hk
    simp only [h, pulse_within, pt]
    have hF : t.First ≠ 0 := by omega
    by_cases h0 : w = 0
    · subst h0; simp [hF, cond_eq_ite]
    · by_cases h1 : w = 1
      · subst h1
        by_cases hs : t.Kind = 1
        · have : t.Second = 0 := by omega
          simp [hs, this, cond_eq_ite]
        · have : t.Second ≠ 0 := by omega
          simp [hs, this, cond_eq_ite]
      · have e : (bif decide (0 ≤ w) then decide (w ≤ 1) else false) = false := by simp [cond_eq_ite]; omega
        rw [e]
        simp [h0, h1, cond_eq_ite]
  · rw [bifT (by simpa using h), if_pos h]
def us (t : ref02_Train) (w : Int) : Int := if w = 0 then t.First else t.Second
/-- The speeds of a step, after whole turns. -/
def spd (t : ref02_Train) (w : Int) (s : api_Span) (k : Int) : api_Span :=
  ⟨500 * t.Lambda * (s.Lo + k * 65536) / (65536 * us t w), -(-(500 * t.Lambda * (s.Hi + k * 65536)) / (65536 * us t w))⟩
/-- A time that a train has. -/
def hasT (t : ref02_Train) (w : Int) : Prop := trainE t = 0 ∧ (w = 0 ∨ (w = 1 ∧ t.Kind ≠ 1))
theorem hasT.time {t : ref02_Train} {w : Int} (h : hasT t w) : timeE t w = (us t w, 0) ∧ 200 ≤ us t w ∧ us t w ≤ 5000 ∧ 10000 ≤ t.Lambda ∧ t.Lambda ≤ 1000000 := by
  obtain ⟨h1, h2⟩ := h
  have hk := trainE_ok h1
  unfold okTrain at hk
  simp only [decide_eq_true_eq] at hk
  unfold timeE us
  rw [if_neg (by simpa using h1)]
  rcases h2 with rfl | ⟨rfl, h2⟩
  · simp; omega
  · simp [h2]; omega
theorem prod_bd {L p : Int} (hL : 10000 ≤ L ∧ L ≤ 1000000) (hp : -5000000 ≤ p ∧ p ≤ 5000000) : -4000000000000000000 ≤ 500 * L * p ∧ 500 * L * p ≤ 4000000000000000000 := by
  have h1 : 500 * L * p ≤ 500 * L * 5000000 := Int.mul_le_mul_of_nonneg_left hp.2 (by omega)
  have h2 : 500 * L * (-5000000) ≤ 500 * L * p := Int.mul_le_mul_of_nonneg_left hp.1 (by omega)
  omega
theorem pulse_speed (F : Nat) {t : ref02_Train} {w k : Int} {s : api_Span} (h : hasT t w) (hs : inB s (-131072) 131072 = true) (hk : -64 ≤ k ∧ k ≤ 64) : pulse_Speed F (pt t) w s k = some (spd t w s k, 0) := by
  obtain ⟨ht, hu1, hu2, hL⟩ := h.time
  have hs' := hs
  unfold inB at hs'
  simp only [decide_eq_true_eq] at hs'
  have b1 := prod_bd (p := s.Lo + k * 65536) hL (by omega)
  have b2 := prod_bd (p := s.Hi + k * 65536) hL (by omega)
  have hw : pulse_within k (-64) 64 = true := by unfold pulse_within; simp [hk]
  unfold pulse_Speed
  rw [pulse_time, sb, ht]
  simp only [inside_in, hs, hw]
  refine Eq.trans (bifF rfl) (Eq.trans (bifF rfl) ?_)
  unfold pulse_Speed_1_at141 pulse_Speed_1_at142
  simp only [pt]
  rw [ckb (by omega), ckb (by omega), ckb (by omega), ckb (by omega), ckb (by omega), down_pulse F (by omega) (by omega), sb, sb, ckb (by omega), ckb (by omega), ckb (by omega), ckb (by omega), ckb (by omega), up_pulse F (by omega) (by omega), sb, sb]
  rfl
/-! ### Within a bound -/
def comm (a b : api_Span) : api_Span := ⟨if b.Lo > a.Lo then b.Lo else a.Lo, if b.Hi < a.Hi then b.Hi else a.Hi⟩
theorem fold_common_eq (a b : api_Span) : fold_common a b = (comm a b, decide ((comm a b).Lo ≤ (comm a b).Hi)) := rfl
def stepOf (x : api_Echo) (w : Int) : api_Span := if w = 0 then x.Steps.1 else x.Steps.2
/-- The speeds of an echo for a time and whole turns, within a bound. -/
def spw (t : ref02_Train) (x : api_Echo) (m : Int) (w k : Int) : api_Span := comm (spd t w (stepOf x w) k) ⟨-m, m⟩
def isw (t : ref02_Train) (x : api_Echo) (m : Int) (w k : Int) : Bool := decide ((spw t x m w k).Lo ≤ (spw t x m w k).Hi)
/-- A clear echo: its steps are steps. -/
theorem clear_steps {x : api_Echo} (h : echoE x = 0) (hk : x.Kind = 3) (w : Int) : inB (stepOf x w) (-131072) 131072 = true := by
  unfold echoE at h
  rw [if_neg (by omega)] at h
  have h2 : okEcho x = true := by
    split at h
    · assumption
    · cases h
  unfold okEcho at h2
  rw [if_neg (by omega), if_neg (by omega)] at h2
  simp only [Bool.and_eq_true] at h2
  unfold turnB inB stepOf at *
  simp only [decide_eq_true_eq] at *
  split <;> omega
end Go.Proofs.Ytbhjgebjojdohaa
/- Chapter 3, plain: the options of an echo. -/
namespace Go.Proofs.Ytbhjgebjojdohaa
open Go Go.RowKit Go.Eng
set_option maxRecDepth 10000
set_option linter.unusedVariables false
set_option linter.unusedSimpArgs false
def kr : Nat → Int → List Int
  | 0, _ => []
  | n + 1, x => x :: kr n (x + 1)
theorem kr_mem : ∀ {n : Nat} {x y : Int}, y ∈ kr n x → x ≤ y ∧ y < x + n := by
  intro n
  induction n with
  | zero => intro x y h; cases h
  | succ n ih =>
    intro x y h
    rcases List.mem_cons.1 h with rfl | h
    · omega
    · have := ih h; omega
theorem kr_len : ∀ (n : Nat) (x : Int), (kr n x).length = n := by
  intro n
  induction n with
  | zero => intro x; rfl
  | succ n ih => intro x; simp [kr, ih]
section
variable {t : ref02_Train} {x : api_Echo} {m w : Int}
def og (t : ref02_Train) (x : api_Echo) (m w k : Int) : Option fold_option := if isw t x m w k = true then some ⟨k, spw t x m w k⟩ else none
theorem opt_step {σ : Type} (F : Nat) (body : σ → fold_option → Option (σ × Bool)) (k1 : Int → σ → Option (σ × Bool)) (h : hasT t w) (hs : ∀ w, inB (stepOf x w) (-131072) 131072 = true) (hm : 1 ≤ m ∧ m ≤ 200000) {k : Int} (hk : -64 ≤ k ∧ k ≤ 64) (s : σ) :
    fold_options_1_B1 F body (pt t) w x m k1 k s = bif isw t x m w k then (body s ⟨k, spw t x m w k⟩).bind (fun q => bif q.2 then k1 (k + 1) q.1 else some (q.1, false)) else k1 (k + 1) s := by
  have hn : IntKind.i64.wrap (0 - m) = -m := neg_wrap (by omega)
  have hc : ∀ {β : Type} (f : Int → Option β), (ck (k + 1)).bind f = f (k + 1) := fun f => ckb (by omega)
  unfold fold_options_1_B1
  rw [bifT (by simpa using hk.2)]
  rcases h.2 with rfl | ⟨rfl, h2⟩
  · refine Eq.trans (bifT rfl) ?_
    rw [span_eta, show x.Steps.1 = stepOf x 0 from rfl, pulse_speed F h (hs 0) hk, sb, hn]
    simp only [hc]
    rfl
  · refine Eq.trans (bifF rfl) (Eq.trans (bifT rfl) ?_)
    rw [span_eta, show x.Steps.2 = stepOf x 1 from rfl, pulse_speed F h (hs 1) hk, sb, hn]
    simp only [hc]
    rfl
theorem Y1_eq (l : List fold_option) (o : fold_option) (h : l.length ≤ 1000) : fold_list_Y1 (l, 0) o = some ((l ++ [o], 0), true) := by
  unfold fold_list_Y1
  rw [apdb (by simp; omega)]
theorem opt_loop (F : Nat) (h : hasT t w) (hs : ∀ w, inB (stepOf x w) (-131072) 131072 = true) (hm : 1 ≤ m ∧ m ≤ 200000) : ∀ (n : Nat) (N : Nat) (k : Int) (l : List fold_option), k + n = 65 → -64 ≤ k → n < N → l.length + n ≤ 1000 →
    fold_options_1_L1 F fold_list_Y1 (pt t) w x m N k (l, 0) = some ((l ++ (kr n k).filterMap (og t x m w), 0), true) := by
  intro n
  induction n with
  | zero =>
    intro N k l hk hk2 hN hl
    obtain ⟨N, rfl⟩ : ∃ N', N = N' + 1 := ⟨N - 1, by omega⟩
    show fold_options_1_B1 F fold_list_Y1 (pt t) w x m (fold_options_1_L1 F fold_list_Y1 (pt t) w x m N) k (l, 0) = _
    unfold fold_options_1_B1
    rw [bifF (by simp; omega)]
    simp [kr]
  | succ n ih =>
    intro N k l hk hk2 hN hl
    obtain ⟨N, rfl⟩ : ∃ N', N = N' + 1 := ⟨N - 1, by omega⟩
    show fold_options_1_B1 F fold_list_Y1 (pt t) w x m (fold_options_1_L1 F fold_list_Y1 (pt t) w x m N) k (l, 0) = _
    rw [opt_step F _ _ h hs hm (by omega)]
    cases hw : isw t x m w k with
    | true =>
      rw [cond_true, Y1_eq l _ (by omega), sb]
      refine Eq.trans (bifT rfl) ?_
      rw [ih N (k + 1) _ (by omega) (by omega) (by omega) (by simp; omega)]
      simp [kr, og, hw]
    | false =>
      rw [cond_false, ih N (k + 1) _ (by omega) (by omega) (by omega) (by omega)]
      simp [kr, og, hw]
/-- The options of an echo. -/
def opts (t : ref02_Train) (x : api_Echo) (m w : Int) : List fold_option := (kr 129 (-64)).filterMap (og t x m w)
theorem opts_len : (opts t x m w).length ≤ 129 := by
  have := List.length_filterMap_le (og t x m w) (kr 129 (-64))
  rw [kr_len] at this
  exact this
theorem og_whole {k : Int} {o : fold_option} (h : og t x m w k = some o) : o.whole = k := by
  unfold og at h
  split at h
  · cases h; rfl
  · cases h
theorem og_mem {l : List Int} {o : fold_option} (h : o ∈ l.filterMap (og t x m w)) : o.whole ∈ l := by
  obtain ⟨k, hk, ho⟩ := List.mem_filterMap.1 h
  rw [og_whole ho]; exact hk
theorem opts_split : opts t x m w = (og t x m w (-64)).toList ++ (kr 127 (-63)).filterMap (og t x m w) ++ (og t x m w 64).toList := by
  unfold opts
  rw [show kr 129 (-64) = [-64] ++ kr 127 (-63) ++ [64] from by kernel_rfl, List.filterMap_append, List.filterMap_append]
  cases h : og t x m w (-64) <;> cases h2 : og t x m w 64 <;> simp [h, h2]
theorem list_eq (F : Nat) (hF : 200 ≤ F) (h : hasT t w) (hs : ∀ w, inB (stepOf x w) (-131072) 131072 = true) (hm : 1 ≤ m ∧ m ≤ 200000) :
    fold_list F (pt t) x w m = some (if isw t x m w (-64) = true ∨ isw t x m w 64 = true then ([], false) else (opts t x m w, true)) := by
  unfold fold_list
  rw [echo_eta]
  unfold fold_options_1
  rw [opt_loop F h hs hm 129 F (-64) [] (by omega) (by omega) (by omega) (by simp), sb]
  refine Eq.trans (bifT rfl) ?_
  simp only [List.nil_append]
  rw [show (kr 129 (-64)).filterMap (og t x m w) = opts t x m w from rfl]
  have hlen := opts_len (t := t) (x := x) (m := m) (w := w)
  have hmid : ∀ o ∈ (kr 127 (-63)).filterMap (og t x m w), -63 ≤ o.whole ∧ o.whole ≤ 63 := fun o ho => by
    have := kr_mem (og_mem ho); omega
  have hsp := opts_split (t := t) (x := x) (m := m) (w := w)
  generalize opts t x m w = L at *
  generalize (kr 127 (-63)).filterMap (og t x m w) = M at *
  cases h1 : isw t x m w (-64) with
  | true =>
    have e1 : og t x m w (-64) = some ⟨-64, spw t x m w (-64)⟩ := by unfold og; rw [if_pos h1]
    rw [e1] at hsp
    have hsp2 : L = ⟨-64, spw t x m w (-64)⟩ :: (M ++ (og t x m w 64).toList) := by rw [hsp]; rfl
    have hpos : decide (((L.length : Nat) : Int) > 0) = true := by rw [hsp2]; simp; omega
    have hll : 0 < L.length := by rw [hsp2]; simp
    have hu : L.getD (0 : Int).toNat default = ⟨-64, spw t x m w (-64)⟩ := by rw [hsp2]; rfl
    simp only [hpos]
    have hw' : ((L.getD (0 : Int).toNat default).whole == -64) = true := by rw [hu]; rfl
    rw [gdT (g := true == true && true) rfl, getb default (by omega), hw', gdF (g := true == false && (true == true && true)) rfl, sb, gdF (g := true == false && (true == true && true)) rfl, sb, if_pos (Or.inl trivial)]
    rfl
  | false =>
    have e1 : og t x m w (-64) = none := by unfold og; rw [if_neg (by simp [h1])]
    rw [e1] at hsp
    simp only [Option.toList, List.nil_append] at hsp
    cases h2 : isw t x m w 64 with
    | true =>
      have e2 : og t x m w 64 = some ⟨64, spw t x m w 64⟩ := by unfold og; rw [if_pos h2]
      rw [e2] at hsp
      simp only at hsp
      have hll : 0 < L.length := by rw [hsp]; simp
      obtain ⟨u, hu, hm'⟩ : ∃ u, L.getD 0 default = u ∧ u ∈ L := ⟨_, rfl, by rw [List.getD_eq_getElem?_getD, List.getElem?_eq_getElem hll]; exact List.getElem_mem hll⟩
      have huw : u.whole ≠ -64 := by
        rw [hsp] at hm'
        rcases List.mem_append.1 hm' with h | h
        · have := hmid _ h; omega
        · simp at h; rw [h]; simp
      have hpos : decide (((L.length : Nat) : Int) > 0) = true := by simp; omega
      have hu' : L.getD (0 : Int).toNat default = u := hu
      have huw' : (u.whole == -64) = false := by simpa using huw
      simp only [hpos]
      rw [gdT (g := true == true && true) rfl, getb default (by omega), hu', huw', gdT (g := false == false && (true == true && true)) rfl, ckb (by omega), gdT (g := false == false && (true == true && true)) rfl, getb default (by omega), if_pos (Or.inr trivial)]
      refine Eq.trans (bifT ?_) rfl
      refine Eq.trans (bifT rfl) (Eq.trans (bifF rfl) ?_)
      have e3 : ((L.length : Int) - 1).toNat = M.length := by rw [hsp]; simp
      rw [e3, hsp]
      simp [List.getD_eq_getElem?_getD]
    | false =>
      have e2 : og t x m w 64 = none := by unfold og; rw [if_neg (by simp [h2])]
      rw [e2] at hsp
      simp only [List.append_nil] at hsp
      subst hsp
      rw [if_neg (by simp)]
      by_cases hll : 0 < L.length
      · have hin : ∀ i, i < L.length → (L.getD i default).whole ≠ -64 ∧ (L.getD i default).whole ≠ 64 := fun i hi => by
          have : L.getD i default ∈ L := by rw [List.getD_eq_getElem?_getD, List.getElem?_eq_getElem hi]; exact List.getElem_mem hi
          have := hmid _ this
          omega
        have ha := (hin 0 hll).1
        have hb := (hin (L.length - 1) (by omega)).2
        have hpos : decide (((L.length : Nat) : Int) > 0) = true := by simp; omega
        have ha' : ((L.getD (0 : Int).toNat default).whole == -64) = false := by simpa using ha
        have hb' : ((L.getD (L.length - 1) default).whole == 64) = false := by simpa using hb
        have e3 : ((L.length : Int) - 1).toNat = L.length - 1 := by omega
        simp only [hpos]
        rw [gdT (g := true == true && true) rfl, getb default (by omega), ha', gdT (g := false == false && (true == true && true)) rfl, ckb (by omega), gdT (g := false == false && (true == true && true)) rfl, getb default (by omega), e3, hb']
        rfl
      · have : L = [] := List.length_eq_zero_iff.1 (by omega)
        subst this
        rfl
end
end Go.Proofs.Ytbhjgebjojdohaa
/- Chapter 3, plain: the guesses of the program and those of the document. -/
namespace Go.Proofs.Ytbhjgebjojdohaa
open Go Go.RowKit Go.Eng
set_option maxRecDepth 10000
set_option linter.unusedVariables false
set_option linter.unusedSimpArgs false
def nonempty (s : api_Span) : Bool := decide (s.Lo ≤ s.Hi)
def gg (u s : fold_option) : Option fold_Guess := if nonempty (comm u.speed s.speed) = true then some ⟨(u.whole, s.whole), comm u.speed s.speed⟩ else none
theorem drop_cons {α : Type} {l : List α} {i : Nat} (h : i < l.length) (d : α) : l.drop i = l.getD i d :: l.drop (i + 1) := by
  rw [List.drop_eq_getElem_cons h, List.getD_eq_getElem?_getD, List.getElem?_eq_getElem h]; rfl
/-! ### The program's loops -/
theorem one_loop (y4 : List fold_option × Bool) (hl4 : y4.1.length ≤ 1000) : ∀ (n N i : Nat) (acc : List fold_Guess), i + n = y4.1.length → n < N → acc.length + n ≤ 1000000 →
    fold_guesses_L8 y4 N acc (i : Int) = some (acc ++ (y4.1.drop i).map (fun f => ⟨(f.whole, 0), f.speed⟩), true) := by
  intro n
  induction n with
  | zero =>
    intro N i acc hi hN hacc
    obtain ⟨N, rfl⟩ : ∃ N', N = N' + 1 := ⟨N - 1, by omega⟩
    show fold_guesses_B8 y4 (fold_guesses_L8 y4 N) acc (i : Int) = _
    unfold fold_guesses_B8
    rw [bifF (by simp; omega), List.drop_eq_nil_of_le (by omega)]
    simp [fold_guesses_K7]
  | succ n ih =>
    intro N i acc hi hN hacc
    obtain ⟨N, rfl⟩ : ∃ N', N = N' + 1 := ⟨N - 1, by omega⟩
    show fold_guesses_B8 y4 (fold_guesses_L8 y4 N) acc (i : Int) = _
    unfold fold_guesses_B8
    rw [bifT (by simp; omega), getb default (by omega), Int.toNat_natCast, apdb (by simp; omega), ckb (by omega)]
    have := ih N (i + 1) (acc ++ [⟨((y4.1.getD i default).whole, 0), (y4.1.getD i default).speed⟩]) (by omega) (by omega) (by simp; omega)
    rw [Int.natCast_add] at this
    refine Eq.trans this ?_
    rw [drop_cons (i := i) (by omega) default]
    simp
theorem two_inner (y72 : List fold_option × Bool) (hl : y72.1.length ≤ 1000) (x8 : Int) (k3 : List fold_Guess → Int → Option (List fold_Guess × Bool)) (u : fold_option) : ∀ (n N i : Nat) (acc : List fold_Guess), i + n = y72.1.length → n < N → acc.length + n ≤ 1000000 →
    fold_guesses_L5 y72 x8 k3 u N acc (i : Int) = fold_guesses_K4 x8 k3 (acc ++ (y72.1.drop i).filterMap (gg u)) := by
  intro n
  induction n with
  | zero =>
    intro N i acc hi hN hacc
    obtain ⟨N, rfl⟩ : ∃ N', N = N' + 1 := ⟨N - 1, by omega⟩
    show fold_guesses_B5 y72 x8 k3 u (fold_guesses_L5 y72 x8 k3 u N) acc (i : Int) = _
    unfold fold_guesses_B5
    rw [bifF (by simp; omega), List.drop_eq_nil_of_le (by omega)]
    simp
  | succ n ih =>
    intro N i acc hi hN hacc
    obtain ⟨N, rfl⟩ : ∃ N', N = N' + 1 := ⟨N - 1, by omega⟩
    show fold_guesses_B5 y72 x8 k3 u (fold_guesses_L5 y72 x8 k3 u N) acc (i : Int) = _
    unfold fold_guesses_B5
    rw [bifT (by simp; omega), getb default (by omega), Int.toNat_natCast, fold_common_eq]
    unfold fold_guesses_K6
    rw [drop_cons (i := i) (by omega) default]
    generalize y72.1.getD i default = v
    have hck : ∀ (l : List fold_Guess), (ck ((i : Int) + 1)).bind (fun x934 => fold_guesses_L5 y72 x8 k3 u N l x934) = fold_guesses_L5 y72 x8 k3 u N l ((i : Int) + 1) := fun l => ckb (by omega)
    simp only [hck]
    cases hc : nonempty (comm u.speed v.speed) with
    | true =>
      refine Eq.trans (bifT hc) ?_
      rw [apdb (by simp; omega)]
      have := ih N (i + 1) (acc ++ [⟨(u.whole, v.whole), comm u.speed v.speed⟩]) (by omega) (by omega) (by simp; omega)
      rw [Int.natCast_add] at this
      refine Eq.trans this ?_
      simp [gg, hc]
    | false =>
      refine Eq.trans (bifF hc) ?_
      have := ih N (i + 1) acc (by omega) (by omega) (by omega)
      rw [Int.natCast_add] at this
      refine Eq.trans this ?_
      simp [gg, hc]
theorem two_loop (F : Nat) (hF : 2000 ≤ F) (y4 y72 : List fold_option × Bool) (hl4 : y4.1.length ≤ 200) (hl7 : y72.1.length ≤ 200) : ∀ (n N i : Nat) (acc : List fold_Guess), i + n = y4.1.length → n < N → acc.length + n * 200 ≤ 100000 →
    fold_guesses_L3 F y4 y72 N acc (i : Int) = some (acc ++ (y4.1.drop i).flatMap (fun u => y72.1.filterMap (gg u)), y72.2) := by
  intro n
  induction n with
  | zero =>
    intro N i acc hi hN hacc
    obtain ⟨N, rfl⟩ : ∃ N', N = N' + 1 := ⟨N - 1, by omega⟩
    show fold_guesses_B3 F y4 y72 (fold_guesses_L3 F y4 y72 N) acc (i : Int) = _
    unfold fold_guesses_B3
    rw [bifF (by simp; omega), List.drop_eq_nil_of_le (by omega)]
    simp [fold_guesses_K2]
  | succ n ih =>
    intro N i acc hi hN hacc
    obtain ⟨N, rfl⟩ : ∃ N', N = N' + 1 := ⟨N - 1, by omega⟩
    show fold_guesses_B3 F y4 y72 (fold_guesses_L3 F y4 y72 N) acc (i : Int) = _
    unfold fold_guesses_B3
    rw [bifT (by simp; omega), getb default (by omega), Int.toNat_natCast]
    rw [drop_cons (i := i) (by omega) default]
    generalize y4.1.getD i default = u
    have h2 := two_inner y72 (by omega) (i : Int) (fold_guesses_L3 F y4 y72 N) u y72.1.length F 0 acc (by omega) (by omega) (by omega)
    refine Eq.trans h2 ?_
    unfold fold_guesses_K4
    rw [ckb (by omega), List.drop_zero]
    have hlen := List.length_filterMap_le (gg u) y72.1
    have := ih N (i + 1) (acc ++ y72.1.filterMap (gg u)) (by omega) (by omega) (by simp; omega)
    rw [Int.natCast_add] at this
    refine Eq.trans this ?_
    simp
/-! ### The document's loops -/
section
variable {t : ref02_Train} {x : api_Echo} {m : Int}
end
end Go.Proofs.Ytbhjgebjojdohaa
/- Chapter 3, plain: the law FoldGuesses. -/
namespace Go.Proofs.Ytbhjgebjojdohaa
open Go Go.RowKit Go.Eng
set_option maxRecDepth 10000
set_option linter.unusedVariables false
set_option linter.unusedSimpArgs false
def conv (g : fold_Guess) : ref03_Guess := ⟨g.Whole, g.Speed⟩
section
variable {t : ref02_Train} {x : api_Echo} {m : Int}
theorem prog_len : (((opts t x m 0).flatMap (fun u => (opts t x m 1).filterMap (gg u)))).length ≤ 129 * 129 := by
  have h1 := opts_len (t := t) (x := x) (m := m) (w := 0)
  have h2 := opts_len (t := t) (x := x) (m := m) (w := 1)
  generalize opts t x m 0 = L0 at *
  generalize opts t x m 1 = L1 at *
  have : (L0.flatMap (fun u => L1.filterMap (gg u))).length ≤ L0.length * 129 := by
    clear h1
    induction L0 with
    | nil => simp
    | cons a l ih =>
      have := List.length_filterMap_le (gg a) L1
      simp [Nat.add_mul] at ih ⊢
      omega
  omega
def badW (t : ref02_Train) (x : api_Echo) (m w : Int) : Prop := isw t x m w (-64) = true ∨ isw t x m w 64 = true
instance (w : Int) : Decidable (badW t x m w) := by unfold badW; infer_instance
end
end Go.Proofs.Ytbhjgebjojdohaa
/- Chapter 3, plain: the law FoldTimes. -/
namespace Go.Proofs.Ytbhjgebjojdohaa
open Go Go.RowKit Go.Eng
set_option maxRecDepth 10000
set_option linter.unusedVariables false
set_option linter.unusedSimpArgs false
theorem guess_one (F : Nat) (hF : 2000 ≤ F) {t : ref02_Train} {x : api_Echo} {m : Int} (h : trainE t = 0) (h1 : t.Kind = 1) (he : echoE x = 0) (hx : x.Kind = 3) (hm : 1 ≤ m ∧ m ≤ 200000) (h0 : ¬ badW t x m 0) :
    fold_Guesses F (pt t) x m = some ((opts t x m 0).map (fun f => ⟨(f.whole, 0), f.speed⟩), 0) := by
  have hs := clear_steps he hx
  have ho := opts_len (t := t) (x := x) (m := m) (w := 0)
  have c0 : ((0 : Int) != 0) = false := rfl
  have hb : fold_bound m = true := by unfold fold_bound; simp [hm]
  have e1 : ∀ {β : Type} (a b : β), (bif !(true : Bool) then a else b) = b := fun _ _ => rfl
  unfold fold_Guesses
  rw [pulse_train, sb, echo_eta, h, c0, cond_false, pulse_echo F (by omega), he, sb, c0, cond_false, hb, e1, bifF (by simpa using hx)]
  unfold fold_guesses
  rw [echo_eta, list_eq F (by omega) ⟨h, .inl rfl⟩ hs hm, sb, if_neg (show ¬ (isw t x m 0 (-64) = true ∨ isw t x m 0 64 = true) from h0)]
  simp only [e1]
  rw [bifT (by simpa [pt] using h1)]
  have := one_loop (opts t x m 0, true) (by simp; omega) (opts t x m 0).length F 0 [] (by simp) (by omega) (by simp; omega)
  have h9 : fold_guesses_L8 (opts t x m 0, true) F [] 0 = _ := this
  rw [h9, sb]
  simp
theorem guess_two (F : Nat) (hF : 2000 ≤ F) {t : ref02_Train} {x : api_Echo} {m : Int} (h : trainE t = 0) (h1 : t.Kind ≠ 1) (he : echoE x = 0) (hx : x.Kind = 3) (hm : 1 ≤ m ∧ m ≤ 200000) (h0 : ¬ badW t x m 0) (h2 : ¬ badW t x m 1) :
    fold_Guesses F (pt t) x m = some ((opts t x m 0).flatMap (fun u => (opts t x m 1).filterMap (gg u)), 0) := by
  have hs := clear_steps he hx
  have ho := opts_len (t := t) (x := x) (m := m) (w := 0)
  have ho1 := opts_len (t := t) (x := x) (m := m) (w := 1)
  have c0 : ((0 : Int) != 0) = false := rfl
  have hb : fold_bound m = true := by unfold fold_bound; simp [hm]
  have e1 : ∀ {β : Type} (a b : β), (bif !(true : Bool) then a else b) = b := fun _ _ => rfl
  unfold fold_Guesses
  rw [pulse_train, sb, echo_eta, h, c0, cond_false, pulse_echo F (by omega), he, sb, c0, cond_false, hb, e1, bifF (by simpa using hx)]
  unfold fold_guesses
  rw [echo_eta, list_eq F (by omega) ⟨h, .inl rfl⟩ hs hm, sb, if_neg (show ¬ (isw t x m 0 (-64) = true ∨ isw t x m 0 64 = true) from h0)]
  simp only [e1]
  rw [bifF (by simpa [pt] using h1)]
  unfold fold_guesses_K1
  rw [echo_eta, list_eq F (by omega) ⟨h, .inr ⟨rfl, h1⟩⟩ hs hm, sb, if_neg (show ¬ (isw t x m 1 (-64) = true ∨ isw t x m 1 64 = true) from h2)]
  have := two_loop F hF (opts t x m 0, true) (opts t x m 1, true) (by simp; omega) (by simp; omega) (opts t x m 0).length F 0 [] (by simp) (by omega) (by simp; omega)
  have h9 : fold_guesses_L3 F (opts t x m 0, true) (opts t x m 1, true) F [] 0 = _ := this
  rw [h9, sb]
  simp
/-- Far turns are out of the bound. -/
theorem far_not {t : ref02_Train} {x : api_Echo} {m w : Int} (hL : 30000 ≤ t.Lambda) (hu : 1 ≤ us t w ∧ us t w ≤ 2999) (hm : 1 ≤ m ∧ m ≤ 60000) (hs : turnB (stepOf x w) = true) : ¬ badW t x m w := by
  unfold turnB at hs
  simp only [decide_eq_true_eq] at hs
  have hD : 0 < 65536 * us t w := by omega
  rintro (h | h) <;> unfold isw spw comm spd at h <;> simp only [decide_eq_true_eq] at h
  · have h3 : 60001 ≤ -(500 * t.Lambda * ((stepOf x w).Hi + -64 * 65536)) / (65536 * us t w) := by
      apply Int.le_ediv_of_mul_le hD
      have : 500 * t.Lambda * ((stepOf x w).Hi + -64 * 65536) ≤ 500 * t.Lambda * (-4096002) := Int.mul_le_mul_of_nonneg_left (by omega) (by omega)
      omega
    split at h <;> split at h <;> omega
  · have h3 : 60001 ≤ 500 * t.Lambda * ((stepOf x w).Lo + 64 * 65536) / (65536 * us t w) := by
      apply Int.le_ediv_of_mul_le hD
      have : 500 * t.Lambda * 4161536 ≤ 500 * t.Lambda * ((stepOf x w).Lo + 64 * 65536) := Int.mul_le_mul_of_nonneg_left (by omega) (by omega)
      omega
    split at h <;> split at h <;> omega
theorem opts_mem {t : ref02_Train} {x : api_Echo} {m w : Int} {o : fold_option} (h : o ∈ opts t x m w) : o.speed = spw t x m w o.whole := by
  obtain ⟨k, hk, ho⟩ := List.mem_filterMap.1 h
  unfold og at ho
  split at ho
  · cases ho; rfl
  · cases ho
/-! ### Among -/
theorem among_loop (p : List fold_Guess) (hl : p.length ≤ 100000) (W : Int) (S : api_Span) (h : ∀ g ∈ p, g.Whole.1 = W → g.Speed.Lo ≤ S.Lo ∧ g.Speed.Hi ≥ S.Hi) : ∀ (n N i : Nat), i + n = p.length → n < N → (∃ g ∈ p.drop i, g.Whole.1 = W) →
    law03_among_L2 p W S N (i : Int) = some true := by
  intro n
  induction n with
  | zero =>
    intro N i hi hN ⟨g, hg, _⟩
    rw [List.drop_eq_nil_of_le (by omega)] at hg
    cases hg
  | succ n ih =>
    intro N i hi hN he
    obtain ⟨N, rfl⟩ : ∃ N', N = N' + 1 := ⟨N - 1, by omega⟩
    show law03_among_B2 p W S (law03_among_L2 p W S N) (i : Int) = _
    unfold law03_among_B2
    rw [bifT (by simp; omega), getb default (by omega), Int.toNat_natCast]
    rw [drop_cons (i := i) (by omega) default] at he
    have hm : p.getD i default ∈ p := by rw [List.getD_eq_getElem?_getD, List.getElem?_eq_getElem (by omega : i < p.length)]; exact List.getElem_mem _
    obtain ⟨u, hu⟩ : ∃ u, p.getD i default = u := ⟨_, rfl⟩
    rw [hu] at he hm ⊢
    by_cases hw : u.Whole.1 = W
    · rw [bifT (by simpa using hw)]
      have := h u hm hw
      simp [this]
    · rw [bifF (by simpa using hw), ckb (by omega)]
      have := ih N (i + 1) (by omega) (by omega) (by
        obtain ⟨g, hg, hgw⟩ := he
        rcases List.mem_cons.1 hg with rfl | hg
        · exact absurd hgw hw
        · exact ⟨g, hg, hgw⟩)
      rw [Int.natCast_add] at this
      exact this
theorem among_ok (F : Nat) (p : List fold_Guess) (hl : p.length < F) (hl2 : p.length ≤ 100000) (W : Int) (S : api_Span) (h : ∀ g ∈ p, g.Whole.1 = W → g.Speed.Lo ≤ S.Lo ∧ g.Speed.Hi ≥ S.Hi) (he : ∃ g ∈ p, g.Whole.1 = W) : law03_among F p W S = some true :=
  among_loop p hl2 W S h p.length F 0 (by omega) hl (by simpa using he)
theorem times_loop (F : Nat) (y66 y72 y77 : List fold_Guess × Int) (hl : y66.1.length ≤ 100000) (h : ∀ g ∈ y66.1, law03_among F y72.1 g.Whole.1 g.Speed = some true ∧ law03_among F y77.1 g.Whole.2 g.Speed = some true) : ∀ (n N i : Nat), i + n = y66.1.length → n < N →
    law03_FoldTimes_L2 F y66 y72 y77 N (i : Int) = some true := by
  intro n
  induction n with
  | zero =>
    intro N i hi hN
    obtain ⟨N, rfl⟩ : ∃ N', N = N' + 1 := ⟨N - 1, by omega⟩
    show law03_FoldTimes_B2 F y66 y72 y77 (law03_FoldTimes_L2 F y66 y72 y77 N) (i : Int) = _
    unfold law03_FoldTimes_B2
    rw [bifF (by simp; omega)]
    rfl
  | succ n ih =>
    intro N i hi hN
    obtain ⟨N, rfl⟩ : ∃ N', N = N' + 1 := ⟨N - 1, by omega⟩
    show law03_FoldTimes_B2 F y66 y72 y77 (law03_FoldTimes_L2 F y66 y72 y77 N) (i : Int) = _
    unfold law03_FoldTimes_B2
    have hm : y66.1.getD i default ∈ y66.1 := by rw [List.getD_eq_getElem?_getD, List.getElem?_eq_getElem (by omega : i < y66.1.length)]; exact List.getElem_mem _
    obtain ⟨h1, h2⟩ := h _ hm
    have c : ∀ {β : Type} (a b : β), (bif (bif !(true : Bool) then true else !(true : Bool)) then a else b) = b := fun _ _ => rfl
    rw [bifT (by simp; omega), getb default (by omega), Int.toNat_natCast, h1, sb, gdT (g := (!true) == false && true) rfl, h2, sb, c, ckb (by omega)]
    have := ih N (i + 1) (by omega) (by omega)
    rw [Int.natCast_add] at this
    exact this
/-! ### Trains and steps by numbers -/
theorem down_law (F : Nat) {x y : Int} (hx : -4000000000000000000 ≤ x ∧ x ≤ 4000000000000000000) (hy : 0 < y) : law03_down F x y = some (x / y) := down_ref F hx hy
/-- Steps of speeds, made wider, are steps. -/
theorem step_ok (F : Nat) (t : pulse_Train) (time speed less more : Int) (hL : 30000 ≤ t.Lambda ∧ t.Lambda ≤ 132000) (ht : 0 ≤ time ∧ time ≤ 5000) (hv : -50000 ≤ speed ∧ speed ≤ 50000) (hl : 0 ≤ less ∧ less < 30000) (hm : 0 ≤ more ∧ more < 30000) :
    ∃ s, law03_step F t time speed less more = some s ∧ turnB s = true := by
  have b1 : -3276800000 * 5000 ≤ speed * 65536 * time ∧ speed * 65536 * time ≤ 3276800000 * 5000 := by
    have h1 : speed * 65536 * time ≤ 3276800000 * time := Int.mul_le_mul_of_nonneg_right (by omega) ht.1
    have h2 : -3276800000 * time ≤ speed * 65536 * time := Int.mul_le_mul_of_nonneg_right (by omega) ht.1
    omega
  unfold law03_step law03_span
  rw [ckb (by omega), ckb (by omega), ckb (by omega)]
  have hd : 0 < 500 * t.Lambda := by omega
  generalize speed * 65536 * time = n at *
  generalize 500 * t.Lambda = d at *
  have hb1 := div_bd (x := n) (y := d) (by omega) hd
  have hb2 := div_bd (x := -n) (y := d) (by omega) hd
  have e1 := Int.mul_ediv_add_emod n d
  have e2 := Int.mul_ediv_add_emod (-n) d
  have m1 := Int.emod_nonneg n (by omega : d ≠ 0)
  have m2 := Int.emod_lt_of_pos n hd
  have m3 := Int.emod_nonneg (-n) (by omega : d ≠ 0)
  have m4 := Int.emod_lt_of_pos (-n) hd
  have q1 : n / d ≤ 20000000000000 ∧ -20000000000000 ≤ n / d := by
    constructor
    · exact Int.le_of_lt_add_one (Int.ediv_lt_of_lt_mul hd (by have : 20000000000001 * 1 ≤ 20000000000001 * d := by omega
                                                               omega))
    · exact Int.le_ediv_of_mul_le hd (by have : -20000000000000 * d ≤ -20000000000000 * 1 := by omega
                                         omega)
  have q2 : -n / d ≤ 20000000000000 ∧ -20000000000000 ≤ -n / d := by
    constructor
    · exact Int.le_of_lt_add_one (Int.ediv_lt_of_lt_mul hd (by have : 20000000000001 * 1 ≤ 20000000000001 * d := by omega
                                                               omega))
    · exact Int.le_ediv_of_mul_le hd (by have : -20000000000000 * d ≤ -20000000000000 * 1 := by omega
                                         omega)
  have q3 : 0 ≤ -(-n / d) - n / d ∧ -(-n / d) - n / d ≤ 1 := by
    have hs : d * (n / d + -n / d) = d * (n / d) + d * (-n / d) := Int.mul_add ..
    generalize n / d = a at *
    generalize -n / d = b at *
    constructor
    · by_cases hc : a + b ≤ 0
      · omega
      · have : d * 1 ≤ d * (a + b) := Int.mul_le_mul_of_nonneg_left (by omega) (by omega)
        omega
    · by_cases hc : -1 ≤ a + b
      · omega
      · have : d * (a + b) ≤ d * (-2) := Int.mul_le_mul_of_nonneg_left (by omega) (by omega)
        omega
  rw [down_law F (by omega) hd, sb, ckb (by omega), neg_wrap (by omega), down_law F (by omega) hd, sb, neg_wrap (by omega), ckb (by omega)]
  generalize n / d = a at *
  generalize -n / d = b at *
  simp only
  rw [ckb (by omega), down_law F (by omega) (by omega), sb, ckb (by omega), ckb (by omega), ckb (by omega)]
  refine ⟨_, rfl, ?_⟩
  unfold turnB
  simp only [decide_eq_true_eq]
  omega
theorem remN {x y : Int} (hx : 0 ≤ x) (hy : 0 < y) : remC x y = some (x % y) := by
  unfold remC
  rw [if_neg (by omega), Int.tmod_eq_emod_of_nonneg hx]
theorem air_train (F : Nat) (a : law03_Air) (hk : a.Kind = 1 ∨ a.Kind = 2) (hL : 0 ≤ a.Lambda ∧ a.Lambda ≤ 255) (hf : 0 ≤ a.First ∧ a.First ≤ 65535) (hs : 0 ≤ a.Second ∧ a.Second ≤ 65535) :
    ∃ t, law03_Air_train F a = some (pt t) ∧ trainE t = 0 ∧ t.Kind ≠ 1 ∧ 30000 ≤ t.Lambda ∧ t.Lambda ≤ 132000 ∧ 500 ≤ t.First ∧ t.First < t.Second ∧ t.Second ≤ 2999 := by
  unfold law03_Air_train
  rw [ckb (by omega), ckb (by omega), ckb (by omega), ckb (by omega), remN (by omega) (by omega), sb, ckb (by omega), ckb (by omega), remN (by omega) (by omega), sb, ckb (by omega), bifT (by simp; omega), ckb (by omega), ckb (by omega), remN (by omega) (by omega), sb, ckb (by omega)]
  refine ⟨⟨_, _, _, _, 4⟩, rfl, ?_, ?_⟩
  · have hk2 : 1 + a.Kind % 3 = 2 ∨ 1 + a.Kind % 3 = 3 := by omega
    unfold trainE okTrain
    rcases hk2 with e | e
    · rw [e, if_neg (by simp), if_pos]
      apply decide_eq_true
      dsimp only
      refine ⟨by omega, by omega, by omega, by omega, by omega, .inr (.inl ⟨rfl, rfl, by omega, by omega, by omega, by omega⟩)⟩
    · rw [e, if_neg (by simp), if_pos]
      apply decide_eq_true
      dsimp only
      refine ⟨by omega, by omega, by omega, by omega, by omega, .inr (.inr ⟨rfl, by omega, by omega, by omega, by omega⟩)⟩
  · simp only
    omega
theorem echo_ok {a b : api_Span} (ha : turnB a = true) (hb : turnB b = true) : echoE (law03_echo a b) = 0 := by
  unfold echoE okEcho law03_echo law03_span
  simp [ha, hb]
  exact ⟨rfl, rfl, rfl, rfl⟩
theorem comm_in (a b : api_Span) : a.Lo ≤ (comm a b).Lo ∧ (comm a b).Hi ≤ a.Hi ∧ b.Lo ≤ (comm a b).Lo ∧ (comm a b).Hi ≤ b.Hi := by
  unfold comm
  simp only
  refine ⟨?_, ?_, ?_, ?_⟩ <;> split <;> omega
theorem FoldTimes_eq (F : Nat) (hF : 129 * 129 < F) (a : law03_Air) (p : Int × Int) (q : Int) (hk : 0 ≤ a.Kind ∧ a.Kind ≤ 255) (hL : 0 ≤ a.Lambda ∧ a.Lambda ≤ 255) (hf : 0 ≤ a.First ∧ a.First ≤ 65535) (hs : 0 ≤ a.Second ∧ a.Second ≤ 65535)
    (hb : -32768 ≤ a.Base ∧ a.Base ≤ 32767) (hj : 0 ≤ a.Jump ∧ a.Jump ≤ 65535) (h1 : 0 ≤ p.1 ∧ p.1 ≤ 65535) (h2 : 0 ≤ p.2 ∧ p.2 ≤ 65535) (hq : 0 ≤ q ∧ q ≤ 65535) : law03_FoldTimes F a p q = some true := by
  unfold law03_FoldTimes
  rw [remN hk.1 (by omega), sb]
  have hw : IntKind.u8.wrap (1 + a.Kind % 2) = 1 ∨ IntKind.u8.wrap (1 + a.Kind % 2) = 2 := by
    have : a.Kind % 2 = 0 ∨ a.Kind % 2 = 1 := by omega
    rcases this with e | e <;> rw [e]
    · exact .inl rfl
    · exact .inr rfl
  generalize IntKind.u8.wrap (1 + a.Kind % 2) = kd at *
  obtain ⟨t, ht, htE, htk, hL1, hL2, hf1, hfs, hs2⟩ := air_train F (law03_Air.mk kd a.Lambda a.First a.Second a.Rose a.Gates a.Base a.Speeds a.Blank a.Less a.More a.Jump) hw hL hf hs
  rw [ht, sb, ckb (by omega), ckb (by omega), remN (by omega) (by omega), sb, ckb (by omega), remN (by omega) (by omega), sb, ckb (by omega), remN (by omega) (by omega), sb, ckb (by omega), ckb (by omega), remN (by omega) (by omega), sb, ckb (by omega), remN (by omega) (by omega), sb]
  obtain ⟨s1, hs1, ht1⟩ := step_ok F (pt t) (pt t).First a.Base (p.1 % 30000) (p.2 % 30000) ⟨hL1, hL2⟩ (by simp [pt]; omega) (by omega) (by omega) (by omega)
  obtain ⟨s2, hs2', ht2⟩ := step_ok F (pt t) (pt t).Second (a.Base + a.Jump % 8000) (p.2 % 30000) (p.1 % 30000) ⟨hL1, hL2⟩ (by simp [pt]; omega) (by omega) (by omega) (by omega)
  rw [hs1, sb, hs2', sb, ckb (by omega), remN (by omega) (by omega), sb, ckb (by omega), echo_eta, echo_eta, span_eta]
  have hm : 1 ≤ 1 + q % 60000 ∧ 1 + q % 60000 ≤ 60000 := by omega
  generalize 1 + q % 60000 = m at *
  have hE := echo_ok ht1 ht2
  have h0 : turnB (api_Span.mk 0 0) = true := rfl
  have hE2 := echo_ok ht2 h0
  have hn0 : ¬ badW t (law03_echo s1 s2) m 0 := far_not (by omega) (by unfold us; simp; omega) hm ht1
  have hn1 : ¬ badW t (law03_echo s1 s2) m 1 := far_not (by omega) (by unfold us; simp; omega) hm ht2
  have g1 := guess_two F (by omega) htE htk hE rfl (by omega) hn0 hn1
  -- the two trains of one time
  have tE1 : trainE ⟨t.Lambda, 1, t.First, 0, 4⟩ = 0 := by
    unfold trainE okTrain
    rw [if_neg (by simp), if_pos]
    apply decide_eq_true
    dsimp only
    exact ⟨by omega, by omega, by omega, by omega, by omega, .inl ⟨rfl, rfl, by omega⟩⟩
  have tE2 : trainE ⟨t.Lambda, 1, t.Second, 0, 4⟩ = 0 := by
    unfold trainE okTrain
    rw [if_neg (by simp), if_pos]
    apply decide_eq_true
    dsimp only
    exact ⟨by omega, by omega, by omega, by omega, by omega, .inl ⟨rfl, rfl, by omega⟩⟩
  have hb1 : ¬ badW ⟨t.Lambda, 1, t.First, 0, 4⟩ (law03_echo s1 s2) m 0 := far_not hL1 (by unfold us; simp; omega) hm ht1
  have hb2 : ¬ badW ⟨t.Lambda, 1, t.Second, 0, 4⟩ (law03_echo s2 (api_Span.mk 0 0)) m 0 := far_not hL1 (by unfold us; simp; omega) hm ht2
  have g2 := guess_one F (by omega) tE1 rfl hE rfl (by omega) hb1
  have g3 := guess_one F (by omega) tE2 rfl hE2 rfl (by omega) hb2
  have o1 : opts ⟨t.Lambda, 1, t.First, 0, 4⟩ (law03_echo s1 s2) m 0 = opts t (law03_echo s1 s2) m 0 := rfl
  have o2 : opts ⟨t.Lambda, 1, t.Second, 0, 4⟩ (law03_echo s2 (api_Span.mk 0 0)) m 0 = opts t (law03_echo s1 s2) m 1 := rfl
  rw [o1] at g2
  rw [o2] at g3
  rw [g1, sb]
  have e2 : (pulse_Train.mk (pt t).Lambda 1 (pt t).First 0 4) = pt ⟨t.Lambda, 1, t.First, 0, 4⟩ := rfl
  have e3 : (pulse_Train.mk (pt t).Lambda 1 (pt t).Second 0 4) = pt ⟨t.Lambda, 1, t.Second, 0, 4⟩ := rfl
  have e4 : (law03_echo s1 s2).Steps.2 = s2 := rfl
  rw [e2, e3, g2, sb, e4, g3, sb, bifF (by rfl)]
  have l0 := opts_len (t := t) (x := law03_echo s1 s2) (m := m) (w := 0)
  have l1 := opts_len (t := t) (x := law03_echo s1 s2) (m := m) (w := 1)
  have l2 := prog_len (t := t) (x := law03_echo s1 s2) (m := m)
  have hmem0 := fun o => opts_mem (t := t) (x := law03_echo s1 s2) (m := m) (w := 0) (o := o)
  have hmem1 := fun o => opts_mem (t := t) (x := law03_echo s1 s2) (m := m) (w := 1) (o := o)
  generalize opts t (law03_echo s1 s2) m 0 = O0 at *
  generalize opts t (law03_echo s1 s2) m 1 = O1 at *
  refine times_loop F _ _ _ (by simp only; omega) ?_ (O0.flatMap (fun u => O1.filterMap (gg u))).length F 0 (by simp only; omega) (by omega)
  intro g hg
  obtain ⟨u, hu, hg⟩ := List.mem_flatMap.1 hg
  obtain ⟨v, hv, hg⟩ := List.mem_filterMap.1 hg
  unfold gg at hg
  split at hg
  · cases hg
    have hc := comm_in u.speed v.speed
    constructor
    · refine among_ok F _ (by simp; omega) (by simp; omega) _ _ ?_ ⟨_, List.mem_map.2 ⟨u, hu, rfl⟩, rfl⟩
      intro g hg hgw
      obtain ⟨u', hu', rfl⟩ := List.mem_map.1 hg
      have : u'.speed = u.speed := by rw [hmem0 u' hu', hmem0 u hu, show u'.whole = u.whole from hgw]
      simp only
      rw [this]
      exact ⟨hc.1, hc.2.1⟩
    · refine among_ok F _ (by simp; omega) (by simp; omega) _ _ ?_ ⟨_, List.mem_map.2 ⟨v, hv, rfl⟩, rfl⟩
      intro g hg hgw
      obtain ⟨u', hu', rfl⟩ := List.mem_map.1 hg
      have : u'.speed = v.speed := by rw [hmem1 u' hu', hmem1 v hv, show u'.whole = v.whole from hgw]
      simp only
      rw [this]
      exact ⟨hc.2.2.1, hc.2.2.2⟩
  · cases hg
end Go.Proofs.Ytbhjgebjojdohaa
