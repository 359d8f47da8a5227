/- Plain programs, written by program (wip/gen/dec.py). -/
import Derived.Test.YtbhjgebjojdohaaF3EB
namespace Go.Proofs.Ytbhjgebjojdohaa
open Go Go.RowKit Go.Eng
set_option maxRecDepth 10000
set_option maxHeartbeats 4000000
set_option linter.unusedVariables false
set_option linter.unusedSimpArgs false
structure pulse_Train where
  Lambda : Int
  Kind : Int
  First : Int
  Second : Int
  Count : Int
  deriving Inhabited, DecidableEq

def pulse_Train.cells (x : pulse_Train) : List Value := [.int .i64 x.Lambda, .int .i64 x.Kind, .int .i64 x.First, .int .i64 x.Second, .int .i64 x.Count]
theorem pulse_Train.cells_len (x : pulse_Train) : (pulse_Train.cells x).length = 5 := rfl

structure api_Span where
  Lo : Int
  Hi : Int
  deriving Inhabited, DecidableEq

def api_Span.cells (x : api_Span) : List Value := [.int .i64 x.Lo, .int .i64 x.Hi]
theorem api_Span.cells_len (x : api_Span) : (api_Span.cells x).length = 2 := rfl

structure api_Echo where
  Kind : Int
  Power : api_Span
  Steps : (api_Span × api_Span)
  Spread : Int
  Ratio : api_Span
  Match : api_Span
  Turn : api_Span
  deriving Inhabited, DecidableEq

def api_Echo.cells (x : api_Echo) : List Value := [.int .i64 x.Kind, .int .i64 x.Power.Lo, .int .i64 x.Power.Hi, .int .i64 x.Steps.1.Lo, .int .i64 x.Steps.1.Hi, .int .i64 x.Steps.2.Lo, .int .i64 x.Steps.2.Hi, .int .i64 x.Spread, .int .i64 x.Ratio.Lo, .int .i64 x.Ratio.Hi, .int .i64 x.Match.Lo, .int .i64 x.Match.Hi, .int .i64 x.Turn.Lo, .int .i64 x.Turn.Hi]
theorem api_Echo.cells_len (x : api_Echo) : (api_Echo.cells x).length = 14 := rfl

structure fold_option where
  whole : Int
  speed : api_Span
  deriving Inhabited, DecidableEq

def fold_option.cells (x : fold_option) : List Value := [.int .i64 x.whole, .int .i64 x.speed.Lo, .int .i64 x.speed.Hi]
theorem fold_option.cells_len (x : fold_option) : (fold_option.cells x).length = 3 := rfl

structure fold_Guess where
  Whole : (Int × Int)
  Speed : api_Span
  deriving Inhabited, DecidableEq

def fold_Guess.cells (x : fold_Guess) : List Value := [.int .i64 x.Whole.1, .int .i64 x.Whole.2, .int .i64 x.Speed.Lo, .int .i64 x.Speed.Hi]
theorem fold_Guess.cells_len (x : fold_Guess) : (fold_Guess.cells x).length = 4 := rfl

structure ref02_Train where
  Lambda : Int
  Kind : Int
  First : Int
  Second : Int
  Count : Int
  deriving Inhabited, DecidableEq

def ref02_Train.cells (x : ref02_Train) : List Value := [.int .i64 x.Lambda, .int .i64 x.Kind, .int .i64 x.First, .int .i64 x.Second, .int .i64 x.Count]
theorem ref02_Train.cells_len (x : ref02_Train) : (ref02_Train.cells x).length = 5 := rfl

structure ref03_Guess where
  Whole : (Int × Int)
  Speed : api_Span
  deriving Inhabited, DecidableEq

def ref03_Guess.cells (x : ref03_Guess) : List Value := [.int .i64 x.Whole.1, .int .i64 x.Whole.2, .int .i64 x.Speed.Lo, .int .i64 x.Speed.Hi]
theorem ref03_Guess.cells_len (x : ref03_Guess) : (ref03_Guess.cells x).length = 4 := rfl

abbrev pulse_Train.ar (x : pulse_Train) : Array Value := #[.int .i64 x.Lambda, .int .i64 x.Kind, .int .i64 x.First, .int .i64 x.Second, .int .i64 x.Count]
abbrev pulse_Train.ag (x : pulse_Train) : Value := .agg #[.int .i64 x.Lambda, .int .i64 x.Kind, .int .i64 x.First, .int .i64 x.Second, .int .i64 x.Count]

abbrev api_Echo.ar (x : api_Echo) : Array Value := #[.int .i64 x.Kind, .int .i64 x.Power.Lo, .int .i64 x.Power.Hi, .int .i64 x.Steps.1.Lo, .int .i64 x.Steps.1.Hi, .int .i64 x.Steps.2.Lo, .int .i64 x.Steps.2.Hi, .int .i64 x.Spread, .int .i64 x.Ratio.Lo, .int .i64 x.Ratio.Hi, .int .i64 x.Match.Lo, .int .i64 x.Match.Hi, .int .i64 x.Turn.Lo, .int .i64 x.Turn.Hi]
abbrev api_Echo.ag (x : api_Echo) : Value := .agg #[.int .i64 x.Kind, .int .i64 x.Power.Lo, .int .i64 x.Power.Hi, .int .i64 x.Steps.1.Lo, .int .i64 x.Steps.1.Hi, .int .i64 x.Steps.2.Lo, .int .i64 x.Steps.2.Hi, .int .i64 x.Spread, .int .i64 x.Ratio.Lo, .int .i64 x.Ratio.Hi, .int .i64 x.Match.Lo, .int .i64 x.Match.Hi, .int .i64 x.Turn.Lo, .int .i64 x.Turn.Hi]

abbrev fold_option.ar (x : fold_option) : Array Value := #[.int .i64 x.whole, .int .i64 x.speed.Lo, .int .i64 x.speed.Hi]
abbrev fold_option.ag (x : fold_option) : Value := .agg #[.int .i64 x.whole, .int .i64 x.speed.Lo, .int .i64 x.speed.Hi]

abbrev fold_Guess.ar (x : fold_Guess) : Array Value := #[.int .i64 x.Whole.1, .int .i64 x.Whole.2, .int .i64 x.Speed.Lo, .int .i64 x.Speed.Hi]
abbrev fold_Guess.ag (x : fold_Guess) : Value := .agg #[.int .i64 x.Whole.1, .int .i64 x.Whole.2, .int .i64 x.Speed.Lo, .int .i64 x.Speed.Hi]

abbrev ref02_Train.ar (x : ref02_Train) : Array Value := #[.int .i64 x.Lambda, .int .i64 x.Kind, .int .i64 x.First, .int .i64 x.Second, .int .i64 x.Count]
abbrev ref02_Train.ag (x : ref02_Train) : Value := .agg #[.int .i64 x.Lambda, .int .i64 x.Kind, .int .i64 x.First, .int .i64 x.Second, .int .i64 x.Count]

abbrev ref03_Guess.ar (x : ref03_Guess) : Array Value := #[.int .i64 x.Whole.1, .int .i64 x.Whole.2, .int .i64 x.Speed.Lo, .int .i64 x.Speed.Hi]
abbrev ref03_Guess.ag (x : ref03_Guess) : Value := .agg #[.int .i64 x.Whole.1, .int .i64 x.Whole.2, .int .i64 x.Speed.Lo, .int .i64 x.Speed.Hi]


def law03_works : Bool := true
def pulse_within (p0 : Int) (p1 : Int) (p2 : Int) : Bool :=
  bif (decide (p1 ≤ p0)) then (decide (p0 ≤ p2)) else false

def pulse_CheckTrain_K2 (p0 : pulse_Train) (x3 : Int) (c5 : Bool) : Option Int :=
  bif (bif (bif (bif (!c5) then true else (!(pulse_within p0.Lambda 10000 1000000))) then true else (!(pulse_within p0.First 200 5000))) then true else (!(pulse_within p0.Count x3 64))) then (some 3) else (some 0)

def pulse_CheckTrain_K1 (p0 : pulse_Train) (x3 : Int) (c4 : Bool) : Option Int :=
  bif (p0.Kind != 1) then (pulse_CheckTrain_K2 p0 x3 (bif (bif c4 then (pulse_within p0.Second 200 5000) else false) then (decide (p0.First < p0.Second)) else false)) else (pulse_CheckTrain_K2 p0 x3 c4)

def pulse_CheckTrain (F : Nat) (p0 : pulse_Train) : Option Int :=
  bif (p0.Kind == 1) then (pulse_CheckTrain_K1 p0 2 (p0.Second == 0)) else (bif (p0.Kind == 2) then ((remC p0.Count 2).bind fun x8 =>
  pulse_CheckTrain_K1 p0 4 (x8 == 0)) else (bif (p0.Kind == 3) then (pulse_CheckTrain_K1 p0 3 true) else (some 2)))

def pulse_inside (p0 : api_Span) (p1 : Int) (p2 : Int) : Bool :=
  bif (bif (decide (p1 ≤ p0.Lo)) then (decide (p0.Lo ≤ p0.Hi)) else false) then (decide (p0.Hi ≤ p2)) else false

def pulse_turning_K1 : Option Bool :=
  some true

def pulse_turning_B2 (p0 : (List api_Span)) (k2 : (Int → Option Bool)) (x34 : Int) : Option Bool :=
  bif (decide (x34 < ((p0.length : Nat) : Int))) then ((getI p0 x34).bind fun u36 =>
  (gd (((!(pulse_within u36.Lo (-32768) 32767)) == false && true)) (ck (u36.Lo + 65536)) 0).bind fun x38 =>
  (gd (((!(pulse_within u36.Lo (-32768) 32767)) == false && true)) (ck (x38 - 1)) 0).bind fun x39 =>
  bif (bif (!(pulse_within u36.Lo (-32768) 32767)) then true else (!(pulse_within u36.Hi u36.Lo x39))) then (some false) else ((ck (x34 + 1)).bind fun x40 =>
  k2 x40)) else (pulse_turning_K1)

def pulse_turning_L2 (p0 : (List api_Span)) : Nat → Int → Option Bool
  | 0, _ => none
  | n + 1, x34 => pulse_turning_B2 p0 (pulse_turning_L2 p0 n) x34

def pulse_turning (F : Nat) (p0 : (List api_Span)) : Option Bool :=
  pulse_turning_L2 p0 F 0

def pulse_CheckEcho_K1 (c7 : Bool) : Option Int :=
  bif (!c7) then (some 3) else (some 0)

def pulse_CheckEcho_K2 (F : Nat) (p0 : api_Echo) (c9 : Bool) : Option Int :=
  bif c9 then (bif (p0.Kind == 2) then (pulse_CheckEcho_K1 (bif (bif (bif (bif (bif (bif (pulse_inside p0.Power 0 1073741824) then (decide (p0.Power.Lo > 0)) else false) then (pulse_inside p0.Ratio 0 1000000) else false) then (pulse_inside p0.Match 0 1000) else false) then (pulse_within p0.Spread 0 65535) else false) then ((((p0.Steps.1.Lo : Int) == 0) && (((p0.Steps.1.Hi : Int) == 0) && true)) && ((((p0.Steps.2.Lo : Int) == 0) && (((p0.Steps.2.Hi : Int) == 0) && true)) && true)) else false) then (((p0.Turn.Lo : Int) == 0) && (((p0.Turn.Hi : Int) == 0) && true)) else false)) else (bif (bif (bif (bif (bif (pulse_inside p0.Power 0 1073741824) then (decide (p0.Power.Lo > 0)) else false) then (pulse_inside p0.Ratio 0 1000000) else false) then (pulse_inside p0.Match 0 1000) else false) then (pulse_within p0.Spread 0 65535) else false) then ((pulse_turning F ([(api_Span.mk p0.Steps.1.Lo p0.Steps.1.Hi), (api_Span.mk p0.Steps.2.Lo p0.Steps.2.Hi), p0.Turn])).bind fun y12 =>
  pulse_CheckEcho_K1 y12) else (pulse_CheckEcho_K1 false))) else (some 2)

def pulse_CheckEcho (F : Nat) (p0 : api_Echo) : Option Int :=
  bif (p0.Kind == 1) then (pulse_CheckEcho_K1 (bif (pulse_inside p0.Power 0 1073741824) then (((p0.Kind : Int) == 1) && ((((p0.Power.Lo : Int) == 0) && (((p0.Power.Hi : Int) == p0.Power.Hi) && true)) && (((((p0.Steps.1.Lo : Int) == 0) && (((p0.Steps.1.Hi : Int) == 0) && true)) && ((((p0.Steps.2.Lo : Int) == 0) && (((p0.Steps.2.Hi : Int) == 0) && true)) && true)) && (((p0.Spread : Int) == 0) && ((((p0.Ratio.Lo : Int) == 0) && (((p0.Ratio.Hi : Int) == 0) && true)) && ((((p0.Match.Lo : Int) == 0) && (((p0.Match.Hi : Int) == 0) && true)) && ((((p0.Turn.Lo : Int) == 0) && (((p0.Turn.Hi : Int) == 0) && true)) && true))))))) else false)) else (bif (p0.Kind == 2) then (pulse_CheckEcho_K2 F p0 (p0.Kind == 2)) else (pulse_CheckEcho_K2 F p0 (p0.Kind == 3)))

def fold_bound (p0 : Int) : Bool :=
  bif (decide (p0 ≥ 1)) then (decide (p0 ≤ 200000)) else false

def fold_common (p0 : api_Span) (p1 : api_Span) : (api_Span × Bool) :=
  ((api_Span.mk (if p1.Lo > p0.Lo then p1.Lo else p0.Lo) (if p1.Hi < p0.Hi then p1.Hi else p0.Hi)), decide ((if p1.Lo > p0.Lo then p1.Lo else p0.Lo) ≤ (if p1.Hi < p0.Hi then p1.Hi else p0.Hi)))

def pulse_Train_time (F : Nat) (p0 : pulse_Train) (p1 : Int) : Option (Int × Int) :=
  (pulse_CheckTrain F p0).bind fun y2 =>
  bif (y2 != 0) then (some (0, y2)) else (bif (!(pulse_within p1 0 1)) then (bif (bif (!(pulse_within p1 0 1)) then true else (0 == 0)) then (some (0, 2)) else (bif (p1 == 0) then (some (p0.First, 0)) else (bif (p1 == 1) then (some (p0.Second, 0)) else (none)))) else (bif (p1 == 0) then (bif (bif (!(pulse_within p1 0 1)) then true else (p0.First == 0)) then (some (0, 2)) else (some (p0.First, 0))) else (bif (p1 == 1) then (bif (bif (!(pulse_within p1 0 1)) then true else (p0.Second == 0)) then (some (0, 2)) else (some (p0.Second, 0))) else (none))))

def pulse_down (F : Nat) (p0 : Int) (p1 : Int) : Option Int :=
  (quoC p0 p1).bind fun x1 =>
  (ck (x1 * p1)).bind fun x2 =>
  bif (decide (x2 > p0)) then ((ck (x1 - 1)).bind fun x3 =>
  some x3) else (some x1)

def pulse_up (F : Nat) (p0 : Int) (p1 : Int) : Option Int :=
  (pulse_down F (IntKind.i64.wrap (0 - p0)) p1).bind fun y1 =>
  some (IntKind.i64.wrap (0 - y1))

def pulse_Speed_1_at141 (F : Nat) (p0 : Int) (c0_ : pulse_Train) (c1_ : Int) (c2_ : Int) : Option Int :=
  (ck (500 * c0_.Lambda)).bind fun x1 =>
  (ck (c1_ * 65536)).bind fun x2 =>
  (ck (p0 + x2)).bind fun x3 =>
  (ck (x1 * x3)).bind fun x4 =>
  (ck (65536 * c2_)).bind fun x5 =>
  (pulse_down F x4 x5).bind fun y6 =>
  some y6

def pulse_Speed_1_at142 (F : Nat) (p0 : Int) (c0_ : pulse_Train) (c1_ : Int) (c2_ : Int) : Option Int :=
  (ck (500 * c0_.Lambda)).bind fun x1 =>
  (ck (c1_ * 65536)).bind fun x2 =>
  (ck (p0 + x2)).bind fun x3 =>
  (ck (x1 * x3)).bind fun x4 =>
  (ck (65536 * c2_)).bind fun x5 =>
  (pulse_up F x4 x5).bind fun y6 =>
  some y6

def pulse_Speed (F : Nat) (p0 : pulse_Train) (p1 : Int) (p2 : api_Span) (p3 : Int) : Option (api_Span × Int) :=
  (pulse_Train_time F p0 p1).bind fun y5 =>
  bif (y5.2 != 0) then (some ((api_Span.mk 0 0), y5.2)) else (bif (bif (!(pulse_inside p2 (-131072) 131072)) then true else (!(pulse_within p3 (-64) 64))) then (some ((api_Span.mk 0 0), 3)) else ((pulse_Speed_1_at141 F p2.Lo p0 p3 y5.1).bind fun y8 =>
  (pulse_Speed_1_at142 F p2.Hi p0 p3 y5.1).bind fun y12 =>
  some ((api_Span.mk y8 y12), 0)))

def fold_options_1_B1 {σ : Type} (F : Nat) (body : (σ → fold_option → Option (σ × Bool))) (c0_ : pulse_Train) (c1_ : Int) (c2_ : api_Echo) (c3_ : Int) (k1 : (Int → σ → Option (σ × Bool))) (x103 : Int) (s104 : σ) : Option (σ × Bool) :=
  bif (decide (x103 ≤ 64)) then (bif (c1_ == 0) then ((pulse_Speed F c0_ c1_ (api_Span.mk c2_.Steps.1.Lo c2_.Steps.1.Hi) x103).bind fun y110 =>
  bif ((fold_common (api_Span.mk y110.1.Lo y110.1.Hi) (api_Span.mk (IntKind.i64.wrap (0 - c3_)) c3_)).2) then ((body s104 (fold_option.mk x103 (api_Span.mk (((fold_common (api_Span.mk y110.1.Lo y110.1.Hi) (api_Span.mk (IntKind.i64.wrap (0 - c3_)) c3_)).1).Lo) (((fold_common (api_Span.mk y110.1.Lo y110.1.Hi) (api_Span.mk (IntKind.i64.wrap (0 - c3_)) c3_)).1).Hi)))).bind fun q125 =>
  bif q125.2 then ((ck (x103 + 1)).bind fun x130 =>
  k1 x130 q125.1) else (some (q125.1, false))) else ((ck (x103 + 1)).bind fun x131 =>
  k1 x131 s104)) else (bif (c1_ == 1) then ((pulse_Speed F c0_ c1_ (api_Span.mk c2_.Steps.2.Lo c2_.Steps.2.Hi) x103).bind fun y134 =>
  bif ((fold_common (api_Span.mk y134.1.Lo y134.1.Hi) (api_Span.mk (IntKind.i64.wrap (0 - c3_)) c3_)).2) then ((body s104 (fold_option.mk x103 (api_Span.mk (((fold_common (api_Span.mk y134.1.Lo y134.1.Hi) (api_Span.mk (IntKind.i64.wrap (0 - c3_)) c3_)).1).Lo) (((fold_common (api_Span.mk y134.1.Lo y134.1.Hi) (api_Span.mk (IntKind.i64.wrap (0 - c3_)) c3_)).1).Hi)))).bind fun q149 =>
  bif q149.2 then ((ck (x103 + 1)).bind fun x154 =>
  k1 x154 q149.1) else (some (q149.1, false))) else ((ck (x103 + 1)).bind fun x155 =>
  k1 x155 s104)) else (none))) else (some (s104, true))

def fold_options_1_L1 {σ : Type} (F : Nat) (body : (σ → fold_option → Option (σ × Bool))) (c0_ : pulse_Train) (c1_ : Int) (c2_ : api_Echo) (c3_ : Int) : Nat → Int → σ → Option (σ × Bool)
  | 0, _, _ => none
  | n + 1, x103, s104 => fold_options_1_B1 F body c0_ c1_ c2_ c3_ (fold_options_1_L1 F body c0_ c1_ c2_ c3_ n) x103 s104

def fold_options_1 {σ : Type} (F : Nat) (c0_ : pulse_Train) (c1_ : Int) (c2_ : api_Echo) (c3_ : Int) (body : σ → fold_option → Option (σ × Bool)) (s_ : σ) : Option (σ × Bool) :=
  fold_options_1_L1 F body c0_ c1_ c2_ c3_ F (-64) s_

def fold_options (p0 : pulse_Train) (p1 : api_Echo) (p2 : Int) (p3 : Int) : Unit :=
  ()

def fold_list_Y1 (s_r : ((List fold_option) × Nat)) (x_ : fold_option) : Option (((List fold_option) × Nat) × Bool) :=
  (apd 24 s_r.1 ([x_])).bind fun l49 =>
  some ((l49, 0), true)

def fold_list_c1 (tg_ : Nat) : Code := .ret

def fold_list (F : Nat) (p0 : pulse_Train) (p1 : api_Echo) (p2 : Int) (p3 : Int) : Option ((List fold_option) × Bool) :=
  (fold_options_1 F p0 p2 (api_Echo.mk p1.Kind p1.Power ((api_Span.mk p1.Steps.1.Lo p1.Steps.1.Hi), (api_Span.mk p1.Steps.2.Lo p1.Steps.2.Hi)) p1.Spread p1.Ratio p1.Match p1.Turn) p3 (fold_list_Y1) (([] : List fold_option), 0)).bind fun r52 =>
  bif r52.2 then ((gd (((decide (((r52.1.1.length : Nat) : Int) > 0)) == true && true)) (getI r52.1.1 0) default).bind fun u56 =>
  (gd (((u56.whole == (-64)) == false && ((decide (((r52.1.1.length : Nat) : Int) > 0)) == true && true))) (ck (((r52.1.1.length : Nat) : Int) - 1)) 0).bind fun x57 =>
  (gd (((u56.whole == (-64)) == false && ((decide (((r52.1.1.length : Nat) : Int) > 0)) == true && true))) (getI r52.1.1 x57) default).bind fun u58 =>
  bif (bif (decide (((r52.1.1.length : Nat) : Int) > 0)) then (bif (u56.whole == (-64)) then true else (u58.whole == 64)) else false) then (some (([] : (List fold_option)), false)) else (some (r52.1.1, true))) else (none)

def fold_guesses_K2 (y72 : ((List fold_option) × Bool)) (l509 : (List fold_Guess)) : Option ((List fold_Guess) × Bool) :=
  some (l509, y72.2)

def fold_guesses_K4 (x800 : Int) (k3 : ((List fold_Guess) → Int → Option ((List fold_Guess) × Bool))) (l872 : (List fold_Guess)) : Option ((List fold_Guess) × Bool) :=
  (ck (x800 + 1)).bind fun x873 =>
  k3 l872 x873

def fold_guesses_K6 (x922 : Int) (k5 : ((List fold_Guess) → Int → Option ((List fold_Guess) × Bool))) (l933 : (List fold_Guess)) : Option ((List fold_Guess) × Bool) :=
  (ck (x922 + 1)).bind fun x934 =>
  k5 l933 x934

def fold_guesses_B5 (y72 : ((List fold_option) × Bool)) (x800 : Int) (k3 : ((List fold_Guess) → Int → Option ((List fold_Guess) × Bool))) (u875 : fold_option) (k5 : ((List fold_Guess) → Int → Option ((List fold_Guess) × Bool))) (l921 : (List fold_Guess)) (x922 : Int) : Option ((List fold_Guess) × Bool) :=
  bif (decide (x922 < ((y72.1.length : Nat) : Int))) then ((getI y72.1 x922).bind fun u936 =>
  bif ((fold_common u875.speed u936.speed).2) then ((apd 32 l921 ([(fold_Guess.mk (u875.whole, u936.whole) (api_Span.mk (((fold_common u875.speed u936.speed).1).Lo) (((fold_common u875.speed u936.speed).1).Hi)))])).bind fun l940 =>
  fold_guesses_K6 x922 k5 l940) else (fold_guesses_K6 x922 k5 l921)) else (fold_guesses_K4 x800 k3 l921)

def fold_guesses_L5 (y72 : ((List fold_option) × Bool)) (x800 : Int) (k3 : ((List fold_Guess) → Int → Option ((List fold_Guess) × Bool))) (u875 : fold_option) : Nat → (List fold_Guess) → Int → Option ((List fold_Guess) × Bool)
  | 0, _, _ => none
  | n + 1, l921, x922 => fold_guesses_B5 y72 x800 k3 u875 (fold_guesses_L5 y72 x800 k3 u875 n) l921 x922

def fold_guesses_B3 (F : Nat) (y4 : ((List fold_option) × Bool)) (y72 : ((List fold_option) × Bool)) (k3 : ((List fold_Guess) → Int → Option ((List fold_Guess) × Bool))) (l799 : (List fold_Guess)) (x800 : Int) : Option ((List fold_Guess) × Bool) :=
  bif (decide (x800 < ((y4.1.length : Nat) : Int))) then ((getI y4.1 x800).bind fun u875 =>
  fold_guesses_L5 y72 x800 k3 u875 F l799 0) else (fold_guesses_K2 y72 l799)

def fold_guesses_L3 (F : Nat) (y4 : ((List fold_option) × Bool)) (y72 : ((List fold_option) × Bool)) : Nat → (List fold_Guess) → Int → Option ((List fold_Guess) × Bool)
  | 0, _, _ => none
  | n + 1, l799, x800 => fold_guesses_B3 F y4 y72 (fold_guesses_L3 F y4 y72 n) l799 x800

def fold_guesses_K1 (F : Nat) (p0 : pulse_Train) (p1 : api_Echo) (p2 : Int) (y4 : ((List fold_option) × Bool)) : Option ((List fold_Guess) × Bool) :=
  (fold_list F p0 (api_Echo.mk p1.Kind p1.Power ((api_Span.mk p1.Steps.1.Lo p1.Steps.1.Hi), (api_Span.mk p1.Steps.2.Lo p1.Steps.2.Hi)) p1.Spread p1.Ratio p1.Match p1.Turn) 1 p2).bind fun y72 =>
  fold_guesses_L3 F y4 y72 F ([]) 0

def fold_guesses_K7 (l976 : (List fold_Guess)) : Option ((List fold_Guess) × Bool) :=
  some (l976, true)

def fold_guesses_B8 (y4 : ((List fold_option) × Bool)) (k8 : ((List fold_Guess) → Int → Option ((List fold_Guess) × Bool))) (l998 : (List fold_Guess)) (x999 : Int) : Option ((List fold_Guess) × Bool) :=
  bif (decide (x999 < ((y4.1.length : Nat) : Int))) then ((getI y4.1 x999).bind fun u1001 =>
  (apd 32 l998 ([(fold_Guess.mk (u1001.whole, 0) u1001.speed)])).bind fun l1004 =>
  (ck (x999 + 1)).bind fun x1007 =>
  k8 l1004 x1007) else (fold_guesses_K7 l998)

def fold_guesses_L8 (y4 : ((List fold_option) × Bool)) : Nat → (List fold_Guess) → Int → Option ((List fold_Guess) × Bool)
  | 0, _, _ => none
  | n + 1, l998, x999 => fold_guesses_B8 y4 (fold_guesses_L8 y4 n) l998 x999

def fold_guesses (F : Nat) (p0 : pulse_Train) (p1 : api_Echo) (p2 : Int) : Option ((List fold_Guess) × Bool) :=
  (fold_list F p0 (api_Echo.mk p1.Kind p1.Power ((api_Span.mk p1.Steps.1.Lo p1.Steps.1.Hi), (api_Span.mk p1.Steps.2.Lo p1.Steps.2.Hi)) p1.Spread p1.Ratio p1.Match p1.Turn) 0 p2).bind fun y4 =>
  bif (!y4.2) then (some (([] : (List fold_Guess)), false)) else (bif (p0.Kind == 1) then (fold_guesses_L8 y4 F ([]) 0) else (fold_guesses_K1 F p0 p1 p2 y4))

def fold_Guesses (F : Nat) (p0 : pulse_Train) (p1 : api_Echo) (p2 : Int) : Option ((List fold_Guess) × Int) :=
  (pulse_CheckTrain F p0).bind fun y3 =>
  bif (y3 != 0) then (some (([] : (List fold_Guess)), y3)) else ((pulse_CheckEcho F (api_Echo.mk p1.Kind p1.Power ((api_Span.mk p1.Steps.1.Lo p1.Steps.1.Hi), (api_Span.mk p1.Steps.2.Lo p1.Steps.2.Hi)) p1.Spread p1.Ratio p1.Match p1.Turn)).bind fun y4 =>
  bif (y4 != 0) then (some (([] : (List fold_Guess)), y4)) else (bif (!(fold_bound p2)) then (some (([] : (List fold_Guess)), 3)) else (bif (p1.Kind != 3) then (some (([] : (List fold_Guess)), 18)) else ((fold_guesses F p0 (api_Echo.mk p1.Kind p1.Power ((api_Span.mk p1.Steps.1.Lo p1.Steps.1.Hi), (api_Span.mk p1.Steps.2.Lo p1.Steps.2.Hi)) p1.Spread p1.Ratio p1.Match p1.Turn) p2).bind fun y6 =>
  bif (!y6.2) then (some (([] : (List fold_Guess)), 9)) else (some (y6.1, 0))))))

def ref01_In (p0 : Int) (p1 : Int) (p2 : Int) : Bool :=
  bif (decide (p0 ≥ p1)) then (decide (p0 ≤ p2)) else false

def ref02_CheckTrain_K1 (p0 : ref02_Train) (x3 : Int) : Option Int :=
  bif (bif (p0.Kind != 1) then (bif (!(ref01_In p0.Second 200 5000)) then true else (decide (p0.First ≥ p0.Second))) else false) then (some 3) else (bif (!(ref01_In p0.Count x3 64)) then (some 3) else (some 0))

def ref02_CheckTrain (F : Nat) (p0 : ref02_Train) : Option Int :=
  bif (bif (bif (p0.Kind != 1) then (p0.Kind != 2) else false) then (p0.Kind != 3) else false) then (some 2) else (bif (bif (!(ref01_In p0.Lambda 10000 1000000)) then true else (!(ref01_In p0.First 200 5000))) then (some 3) else (bif (p0.Kind == 1) then (bif (p0.Second != 0) then (some 3) else (ref02_CheckTrain_K1 p0 2)) else (bif (p0.Kind == 2) then ((remC p0.Count 2).bind fun x5 =>
  bif (x5 != 0) then (some 3) else (ref02_CheckTrain_K1 p0 4)) else (bif (p0.Kind == 3) then (ref02_CheckTrain_K1 p0 3) else (ref02_CheckTrain_K1 p0 2)))))

def ref01_Valid (p0 : api_Span) (p1 : Int) (p2 : Int) : Bool :=
  bif (bif (decide (p0.Lo ≤ p0.Hi)) then (decide (p0.Lo ≥ p1)) else false) then (decide (p0.Hi ≤ p2)) else false

def ref02_turns (F : Nat) (p0 : api_Span) : Option Bool :=
  (gd (((ref01_In p0.Lo (-32768) 32767) == true && true)) (ck (p0.Lo + 65536)) 0).bind fun x2 =>
  (gd (((ref01_In p0.Lo (-32768) 32767) == true && true)) (ck (x2 - 1)) 0).bind fun x3 =>
  some (bif (ref01_In p0.Lo (-32768) 32767) then (ref01_In p0.Hi p0.Lo x3) else false)

def ref02_CheckEcho (F : Nat) (p0 : api_Echo) : Option Int :=
  bif (bif (bif (p0.Kind != 1) then (p0.Kind != 2) else false) then (p0.Kind != 3) else false) then (some 2) else (bif (!(ref01_Valid p0.Power 0 1073741824)) then (some 3) else (bif (p0.Kind == 1) then (bif (bif (bif (bif (bif (bif (bif (p0.Power.Lo != 0) then true else (!(((p0.Steps.1.Lo : Int) == 0) && (((p0.Steps.1.Hi : Int) == 0) && true)))) then true else (!(((p0.Steps.2.Lo : Int) == 0) && (((p0.Steps.2.Hi : Int) == 0) && true)))) then true else (p0.Spread != 0)) then true else (!(((p0.Ratio.Lo : Int) == 0) && (((p0.Ratio.Hi : Int) == 0) && true)))) then true else (!(((p0.Match.Lo : Int) == 0) && (((p0.Match.Hi : Int) == 0) && true)))) then true else (!(((p0.Turn.Lo : Int) == 0) && (((p0.Turn.Hi : Int) == 0) && true)))) then (some 3) else (some 0)) else (bif (bif (bif (bif (decide (p0.Power.Lo < 1)) then true else (!(ref01_Valid p0.Ratio 0 1000000))) then true else (!(ref01_Valid p0.Match 0 1000))) then true else (!(ref01_In p0.Spread 0 65535))) then (some 3) else (bif (p0.Kind == 2) then (bif (bif (bif (!(((p0.Steps.1.Lo : Int) == 0) && (((p0.Steps.1.Hi : Int) == 0) && true))) then true else (!(((p0.Steps.2.Lo : Int) == 0) && (((p0.Steps.2.Hi : Int) == 0) && true)))) then true else (!(((p0.Turn.Lo : Int) == 0) && (((p0.Turn.Hi : Int) == 0) && true)))) then (some 3) else (some 0)) else ((ref02_turns F (api_Span.mk p0.Steps.1.Lo p0.Steps.1.Hi)).bind fun y4 =>
  (gd (((!y4) == false && true)) (ref02_turns F (api_Span.mk p0.Steps.2.Lo p0.Steps.2.Hi)) default).bind fun y5 =>
  (gd (((bif (!y4) then true else (!y5)) == false && true)) (ref02_turns F p0.Turn) default).bind fun y6 =>
  bif (bif (bif (!y4) then true else (!y5)) then true else (!y6)) then (some 3) else (some 0))))))

def ref03_times (p0 : ref02_Train) : Int :=
  bif (p0.Kind == 1) then (1) else (2)

def ref03_common (p0 : api_Span) (p1 : api_Span) : (api_Span × Bool) :=
  ((api_Span.mk (if p1.Lo > p0.Lo then p1.Lo else p0.Lo) (if p1.Hi < p0.Hi then p1.Hi else p0.Hi)), decide ((if p1.Lo > p0.Lo then p1.Lo else p0.Lo) ≤ (if p1.Hi < p0.Hi then p1.Hi else p0.Hi)))

def ref02_time (F : Nat) (p0 : ref02_Train) (p1 : Int) : Option (Int × Int) :=
  (ref02_CheckTrain F p0).bind fun y2 =>
  bif (y2 != 0) then (some (0, y2)) else (bif (p1 == 0) then (some (p0.First, 0)) else (bif (bif (p1 != 1) then true else (p0.Kind == 1)) then (some (0, 2)) else (some (p0.Second, 0))))

def ref01_Down (F : Nat) (p0 : Int) (p1 : Int) : Option Int :=
  (quoC p0 p1).bind fun x1 =>
  (remC p0 p1).bind fun x2 =>
  bif (decide (x2 < 0)) then ((ck (x1 - 1)).bind fun x3 =>
  some x3) else (some x1)

def ref01_Up (F : Nat) (p0 : Int) (p1 : Int) : Option Int :=
  (ref01_Down F (IntKind.i64.wrap (0 - p0)) p1).bind fun y1 =>
  some (IntKind.i64.wrap (0 - y1))

def ref02_Speed (F : Nat) (p0 : ref02_Train) (p1 : Int) (p2 : api_Span) (p3 : Int) : Option (api_Span × Int) :=
  (ref02_time F p0 p1).bind fun y4 =>
  bif (y4.2 != 0) then (some ((api_Span.mk 0 0), y4.2)) else (bif (bif (!(ref01_Valid p2 (-131072) 131072)) then true else (!(ref01_In p3 (-64) 64))) then (some ((api_Span.mk 0 0), 3)) else ((ck (500 * p0.Lambda)).bind fun x5 =>
  (ck (p3 * 65536)).bind fun x6 =>
  (ck (p2.Lo + x6)).bind fun x7 =>
  (ck (x5 * x7)).bind fun x8 =>
  (ck (65536 * y4.1)).bind fun x9 =>
  (ref01_Down F x8 x9).bind fun y10 =>
  (ck (500 * p0.Lambda)).bind fun x11 =>
  (ck (p3 * 65536)).bind fun x12 =>
  (ck (p2.Hi + x12)).bind fun x13 =>
  (ck (x11 * x13)).bind fun x14 =>
  (ck (65536 * y4.1)).bind fun x15 =>
  (ref01_Up F x14 x15).bind fun y16 =>
  some ((api_Span.mk y10 y16), 0)))

def ref03_speed (F : Nat) (p0 : ref02_Train) (p1 : api_Echo) (p2 : Int) (p3 : Int) (p4 : Int) : Option (api_Span × Bool) :=
  bif (p2 == 0) then ((ref02_Speed F p0 p2 (api_Span.mk p1.Steps.1.Lo p1.Steps.1.Hi) p3).bind fun y6 =>
  some ((api_Span.mk (((ref03_common (api_Span.mk y6.1.Lo y6.1.Hi) (api_Span.mk (IntKind.i64.wrap (0 - p4)) p4)).1).Lo) (((ref03_common (api_Span.mk y6.1.Lo y6.1.Hi) (api_Span.mk (IntKind.i64.wrap (0 - p4)) p4)).1).Hi)), (ref03_common (api_Span.mk y6.1.Lo y6.1.Hi) (api_Span.mk (IntKind.i64.wrap (0 - p4)) p4)).2)) else (bif (p2 == 1) then ((ref02_Speed F p0 p2 (api_Span.mk p1.Steps.2.Lo p1.Steps.2.Hi) p3).bind fun y21 =>
  some ((api_Span.mk (((ref03_common (api_Span.mk y21.1.Lo y21.1.Hi) (api_Span.mk (IntKind.i64.wrap (0 - p4)) p4)).1).Lo) (((ref03_common (api_Span.mk y21.1.Lo y21.1.Hi) (api_Span.mk (IntKind.i64.wrap (0 - p4)) p4)).1).Hi)), (ref03_common (api_Span.mk y21.1.Lo y21.1.Hi) (api_Span.mk (IntKind.i64.wrap (0 - p4)) p4)).2)) else (none))

def ref03_Guesses_K3 (l530 : (List ref03_Guess)) : Option ((List ref03_Guess) × Int) :=
  some (l530, 0)

def ref03_Guesses_K5 (x869 : Int) (k4 : ((List ref03_Guess) → Int → Option ((List ref03_Guess) × Int))) (l953 : (List ref03_Guess)) : Option ((List ref03_Guess) × Int) :=
  (ck (x869 + 1)).bind fun x954 =>
  k4 l953 x954

def ref03_Guesses_K8 (x1010 : Int) (k7 : ((List ref03_Guess) → Int → Option ((List ref03_Guess) × Int))) (l1021 : (List ref03_Guess)) : Option ((List ref03_Guess) × Int) :=
  (ck (x1010 + 1)).bind fun x1022 =>
  k7 l1021 x1022

def ref03_Guesses_B7 (F : Nat) (p0 : ref02_Train) (p1 : api_Echo) (p2 : Int) (x869 : Int) (k4 : ((List ref03_Guess) → Int → Option ((List ref03_Guess) × Int))) (y956 : (api_Span × Bool)) (k7 : ((List ref03_Guess) → Int → Option ((List ref03_Guess) × Int))) (l1009 : (List ref03_Guess)) (x1010 : Int) : Option ((List ref03_Guess) × Int) :=
  bif (bif (bif y956.2 then ((ref03_times p0) == 2) else false) then (decide (x1010 ≤ 64)) else false) then ((ref03_speed F p0 (api_Echo.mk p1.Kind p1.Power ((api_Span.mk p1.Steps.1.Lo p1.Steps.1.Hi), (api_Span.mk p1.Steps.2.Lo p1.Steps.2.Hi)) p1.Spread p1.Ratio p1.Match p1.Turn) 1 x1010 p2).bind fun y1024 =>
  bif (bif y1024.2 then ((ref03_common (api_Span.mk y956.1.Lo y956.1.Hi) (api_Span.mk y1024.1.Lo y1024.1.Hi)).2) else false) then ((apd 32 l1009 ([(ref03_Guess.mk (x869, x1010) (api_Span.mk (((ref03_common (api_Span.mk y956.1.Lo y956.1.Hi) (api_Span.mk y1024.1.Lo y1024.1.Hi)).1).Lo) (((ref03_common (api_Span.mk y956.1.Lo y956.1.Hi) (api_Span.mk y1024.1.Lo y1024.1.Hi)).1).Hi)))])).bind fun l1028 =>
  ref03_Guesses_K8 x1010 k7 l1028) else (ref03_Guesses_K8 x1010 k7 l1009)) else (ref03_Guesses_K5 x869 k4 l1009)

def ref03_Guesses_L7 (F : Nat) (p0 : ref02_Train) (p1 : api_Echo) (p2 : Int) (x869 : Int) (k4 : ((List ref03_Guess) → Int → Option ((List ref03_Guess) × Int))) (y956 : (api_Span × Bool)) : Nat → (List ref03_Guess) → Int → Option ((List ref03_Guess) × Int)
  | 0, _, _ => none
  | n + 1, l1009, x1010 => ref03_Guesses_B7 F p0 p1 p2 x869 k4 y956 (ref03_Guesses_L7 F p0 p1 p2 x869 k4 y956 n) l1009 x1010

def ref03_Guesses_K6 (F : Nat) (p0 : ref02_Train) (p1 : api_Echo) (p2 : Int) (x869 : Int) (k4 : ((List ref03_Guess) → Int → Option ((List ref03_Guess) × Int))) (y956 : (api_Span × Bool)) (l964 : (List ref03_Guess)) : Option ((List ref03_Guess) × Int) :=
  ref03_Guesses_L7 F p0 p1 p2 x869 k4 y956 F l964 (-64)

def ref03_Guesses_B4 (F : Nat) (p0 : ref02_Train) (p1 : api_Echo) (p2 : Int) (k4 : ((List ref03_Guess) → Int → Option ((List ref03_Guess) × Int))) (l868 : (List ref03_Guess)) (x869 : Int) : Option ((List ref03_Guess) × Int) :=
  bif (decide (x869 ≤ 64)) then ((ref03_speed F p0 (api_Echo.mk p1.Kind p1.Power ((api_Span.mk p1.Steps.1.Lo p1.Steps.1.Hi), (api_Span.mk p1.Steps.2.Lo p1.Steps.2.Hi)) p1.Spread p1.Ratio p1.Match p1.Turn) 0 x869 p2).bind fun y956 =>
  bif (bif y956.2 then ((ref03_times p0) == 1) else false) then ((apd 32 l868 ([(ref03_Guess.mk (x869, 0) (api_Span.mk y956.1.Lo y956.1.Hi))])).bind fun l1033 =>
  ref03_Guesses_K6 F p0 p1 p2 x869 k4 y956 l1033) else (ref03_Guesses_K6 F p0 p1 p2 x869 k4 y956 l868)) else (ref03_Guesses_K3 l868)

def ref03_Guesses_L4 (F : Nat) (p0 : ref02_Train) (p1 : api_Echo) (p2 : Int) : Nat → (List ref03_Guess) → Int → Option ((List ref03_Guess) × Int)
  | 0, _, _ => none
  | n + 1, l868, x869 => ref03_Guesses_B4 F p0 p1 p2 (ref03_Guesses_L4 F p0 p1 p2 n) l868 x869

def ref03_Guesses_K2 (F : Nat) (p0 : ref02_Train) (p1 : api_Echo) (p2 : Int) : Option ((List ref03_Guess) × Int) :=
  ref03_Guesses_L4 F p0 p1 p2 F ([]) (-64)

def ref03_Guesses_B9 (F : Nat) (p0 : ref02_Train) (p1 : api_Echo) (p2 : Int) (k9 : (Int → Option ((List ref03_Guess) × Int))) (x1048 : Int) : Option ((List ref03_Guess) × Int) :=
  bif (decide (x1048 < (ref03_times p0))) then ((ref03_speed F p0 (api_Echo.mk p1.Kind p1.Power ((api_Span.mk p1.Steps.1.Lo p1.Steps.1.Hi), (api_Span.mk p1.Steps.2.Lo p1.Steps.2.Hi)) p1.Spread p1.Ratio p1.Match p1.Turn) x1048 (-64) p2).bind fun y1050 =>
  (ref03_speed F p0 (api_Echo.mk p1.Kind p1.Power ((api_Span.mk p1.Steps.1.Lo p1.Steps.1.Hi), (api_Span.mk p1.Steps.2.Lo p1.Steps.2.Hi)) p1.Spread p1.Ratio p1.Match p1.Turn) x1048 64 p2).bind fun y1052 =>
  bif (bif y1050.2 then true else y1052.2) then (some (([] : (List ref03_Guess)), 9)) else ((ck (x1048 + 1)).bind fun x1054 =>
  k9 x1054)) else (ref03_Guesses_K2 F p0 p1 p2)

def ref03_Guesses_L9 (F : Nat) (p0 : ref02_Train) (p1 : api_Echo) (p2 : Int) : Nat → Int → Option ((List ref03_Guess) × Int)
  | 0, _ => none
  | n + 1, x1048 => ref03_Guesses_B9 F p0 p1 p2 (ref03_Guesses_L9 F p0 p1 p2 n) x1048

def ref03_Guesses_K1 (F : Nat) (p0 : ref02_Train) (p1 : api_Echo) (p2 : Int) (x5 : Int) : Option ((List ref03_Guess) × Int) :=
  bif (x5 != 0) then (some (([] : (List ref03_Guess)), x5)) else (bif (bif (decide (p2 < 1)) then true else (decide (p2 > 200000))) then (some (([] : (List ref03_Guess)), 3)) else (bif (p1.Kind != 3) then (some (([] : (List ref03_Guess)), 18)) else (ref03_Guesses_L9 F p0 p1 p2 F 0)))

def ref03_Guesses (F : Nat) (p0 : ref02_Train) (p1 : api_Echo) (p2 : Int) : Option ((List ref03_Guess) × Int) :=
  (ref02_CheckTrain F p0).bind fun y3 =>
  bif (y3 == 0) then ((ref02_CheckEcho F (api_Echo.mk p1.Kind p1.Power ((api_Span.mk p1.Steps.1.Lo p1.Steps.1.Hi), (api_Span.mk p1.Steps.2.Lo p1.Steps.2.Hi)) p1.Spread p1.Ratio p1.Match p1.Turn)).bind fun y1056 =>
  ref03_Guesses_K1 F p0 p1 p2 y1056) else (ref03_Guesses_K1 F p0 p1 p2 y3)

def law03_guesses_K1 : Option Bool :=
  some true

def law03_guesses_B2 (p0 : (List fold_Guess)) (p1 : (List ref03_Guess)) (k2 : (Int → Option Bool)) (x37 : Int) : Option Bool :=
  bif (decide (x37 < ((p0.length : Nat) : Int))) then ((getI p0 x37).bind fun u39 =>
  (getI p1 x37).bind fun u40 =>
  (gd (((!(((u39.Whole.1 : Int) == u40.Whole.1) && (((u39.Whole.2 : Int) == u40.Whole.2) && true))) == false && true)) (getI p0 x37) default).bind fun u41 =>
  (gd (((!(((u39.Whole.1 : Int) == u40.Whole.1) && (((u39.Whole.2 : Int) == u40.Whole.2) && true))) == false && true)) (getI p1 x37) default).bind fun u42 =>
  bif (bif (!(((u39.Whole.1 : Int) == u40.Whole.1) && (((u39.Whole.2 : Int) == u40.Whole.2) && true))) then true else (!(((u41.Speed.Lo : Int) == u42.Speed.Lo) && (((u41.Speed.Hi : Int) == u42.Speed.Hi) && true)))) then (some false) else ((ck (x37 + 1)).bind fun x43 =>
  k2 x43)) else (law03_guesses_K1)

def law03_guesses_L2 (p0 : (List fold_Guess)) (p1 : (List ref03_Guess)) : Nat → Int → Option Bool
  | 0, _ => none
  | n + 1, x37 => law03_guesses_B2 p0 p1 (law03_guesses_L2 p0 p1 n) x37

def law03_guesses (F : Nat) (p0 : (List fold_Guess)) (p1 : (List ref03_Guess)) : Option Bool :=
  bif (((p0.length : Nat) : Int) != ((p1.length : Nat) : Int)) then (some false) else (law03_guesses_L2 p0 p1 F 0)

def pulse_Reach (F : Nat) (p0 : pulse_Train) (p1 : Int) : Option (Int × Int) :=
  (pulse_Train_time F p0 p1).bind fun y2 =>
  (ck (150 * y2.1)).bind fun x3 =>
  some (x3, y2.2)

def fold_Window (F : Nat) (p0 : pulse_Train) (p1 : Int) (p2 : Int) : Option (Int × Int) :=
  (pulse_Reach F p0 p1).bind fun y2 =>
  bif (y2.2 != 0) then (some (0, y2.2)) else (bif (bif (decide (p2 < 1)) then true else (decide (p2 > 2000))) then (some (0, 3)) else ((quoC y2.1 p2).bind fun x3 =>
  some (x3, 0)))

def ref02_Reach (F : Nat) (p0 : ref02_Train) (p1 : Int) : Option (Int × Int) :=
  (ref02_time F p0 p1).bind fun y2 =>
  (ck (150 * y2.1)).bind fun x3 =>
  some (x3, y2.2)

def ref03_Window (F : Nat) (p0 : ref02_Train) (p1 : Int) (p2 : Int) : Option (Int × Int) :=
  (ref02_Reach F p0 p1).bind fun y2 =>
  bif (y2.2 != 0) then (some (0, y2.2)) else (bif (bif (decide (p2 < 1)) then true else (decide (p2 > 2000))) then (some (0, 3)) else ((quoC y2.1 p2).bind fun x3 =>
  some (x3, 0)))

def law03_FoldGuesses (F : Nat) (p0 : ref02_Train) (p1 : api_Echo) (p2 : Int) (p3 : Int) (p4 : Int) : Option Bool :=
  (fold_Guesses F (pulse_Train.mk p0.Lambda p0.Kind p0.First p0.Second p0.Count) (api_Echo.mk p1.Kind p1.Power ((api_Span.mk p1.Steps.1.Lo p1.Steps.1.Hi), (api_Span.mk p1.Steps.2.Lo p1.Steps.2.Hi)) p1.Spread p1.Ratio p1.Match p1.Turn) p2).bind fun y4 =>
  (ref03_Guesses F p0 (api_Echo.mk p1.Kind p1.Power ((api_Span.mk p1.Steps.1.Lo p1.Steps.1.Hi), (api_Span.mk p1.Steps.2.Lo p1.Steps.2.Hi)) p1.Spread p1.Ratio p1.Match p1.Turn) p2).bind fun y8 =>
  (law03_guesses F y4.1 y8.1).bind fun y11 =>
  bif (bif (!y11) then true else (y4.2 != y8.2)) then (some false) else ((fold_Window F (pulse_Train.mk p0.Lambda p0.Kind p0.First p0.Second p0.Count) p3 p4).bind fun y12 =>
  (ref03_Window F p0 p3 p4).bind fun y13 =>
  some (bif (bif (y12.1 == y13.1) then (y12.2 == y13.2) else false) then law03_works else false))
end Go.Proofs.Ytbhjgebjojdohaa
