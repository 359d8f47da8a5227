/- Plain programs, written by program (wip/gen/dec.py). -/
import Derived.Test.YtbhjgebjojdohaaF8EB
namespace Go.Proofs.Ytbhjgebjojdohaa
open Go Go.RowKit Go.Eng
set_option maxRecDepth 10000
set_option maxHeartbeats 4000000
set_option linter.unusedVariables false
set_option linter.unusedSimpArgs false
structure pulse_Train where
  Lambda : Int
  Kind : Int
  First : Int
  Second : Int
  Count : Int
  deriving Inhabited, DecidableEq

def pulse_Train.cells (x : pulse_Train) : List Value := [.int .i64 x.Lambda, .int .i64 x.Kind, .int .i64 x.First, .int .i64 x.Second, .int .i64 x.Count]
theorem pulse_Train.cells_len (x : pulse_Train) : (pulse_Train.cells x).length = 5 := rfl

structure api_Span where
  Lo : Int
  Hi : Int
  deriving Inhabited, DecidableEq

def api_Span.cells (x : api_Span) : List Value := [.int .i64 x.Lo, .int .i64 x.Hi]
theorem api_Span.cells_len (x : api_Span) : (api_Span.cells x).length = 2 := rfl

structure api_Echo where
  Kind : Int
  Power : api_Span
  Steps : (api_Span × api_Span)
  Spread : Int
  Ratio : api_Span
  Match : api_Span
  Turn : api_Span
  deriving Inhabited, DecidableEq

def api_Echo.cells (x : api_Echo) : List Value := [.int .i64 x.Kind, .int .i64 x.Power.Lo, .int .i64 x.Power.Hi, .int .i64 x.Steps.1.Lo, .int .i64 x.Steps.1.Hi, .int .i64 x.Steps.2.Lo, .int .i64 x.Steps.2.Hi, .int .i64 x.Spread, .int .i64 x.Ratio.Lo, .int .i64 x.Ratio.Hi, .int .i64 x.Match.Lo, .int .i64 x.Match.Hi, .int .i64 x.Turn.Lo, .int .i64 x.Turn.Hi]
theorem api_Echo.cells_len (x : api_Echo) : (api_Echo.cells x).length = 14 := rfl

structure fold_option where
  whole : Int
  speed : api_Span
  deriving Inhabited, DecidableEq

def fold_option.cells (x : fold_option) : List Value := [.int .i64 x.whole, .int .i64 x.speed.Lo, .int .i64 x.speed.Hi]
theorem fold_option.cells_len (x : fold_option) : (fold_option.cells x).length = 3 := rfl

structure fold_Guess where
  Whole : (Int × Int)
  Speed : api_Span
  deriving Inhabited, DecidableEq

def fold_Guess.cells (x : fold_Guess) : List Value := [.int .i64 x.Whole.1, .int .i64 x.Whole.2, .int .i64 x.Speed.Lo, .int .i64 x.Speed.Hi]
theorem fold_Guess.cells_len (x : fold_Guess) : (fold_Guess.cells x).length = 4 := rfl

structure ref02_Train where
  Lambda : Int
  Kind : Int
  First : Int
  Second : Int
  Count : Int
  deriving Inhabited, DecidableEq

def ref02_Train.cells (x : ref02_Train) : List Value := [.int .i64 x.Lambda, .int .i64 x.Kind, .int .i64 x.First, .int .i64 x.Second, .int .i64 x.Count]
theorem ref02_Train.cells_len (x : ref02_Train) : (ref02_Train.cells x).length = 5 := rfl

structure ref03_Guess where
  Whole : (Int × Int)
  Speed : api_Span
  deriving Inhabited, DecidableEq

def ref03_Guess.cells (x : ref03_Guess) : List Value := [.int .i64 x.Whole.1, .int .i64 x.Whole.2, .int .i64 x.Speed.Lo, .int .i64 x.Speed.Hi]
theorem ref03_Guess.cells_len (x : ref03_Guess) : (ref03_Guess.cells x).length = 4 := rfl

structure law03_Air where
  Kind : Int
  Lambda : Int
  First : Int
  Second : Int
  Rose : Int
  Gates : Int
  Base : Int
  Speeds : (List Int)
  Blank : Int
  Less : (List Int)
  More : (List Int)
  Jump : Int
  deriving Inhabited, DecidableEq

abbrev pulse_Train.ar (x : pulse_Train) : Array Value := #[.int .i64 x.Lambda, .int .i64 x.Kind, .int .i64 x.First, .int .i64 x.Second, .int .i64 x.Count]
abbrev pulse_Train.ag (x : pulse_Train) : Value := .agg #[.int .i64 x.Lambda, .int .i64 x.Kind, .int .i64 x.First, .int .i64 x.Second, .int .i64 x.Count]

abbrev api_Echo.ar (x : api_Echo) : Array Value := #[.int .i64 x.Kind, .int .i64 x.Power.Lo, .int .i64 x.Power.Hi, .int .i64 x.Steps.1.Lo, .int .i64 x.Steps.1.Hi, .int .i64 x.Steps.2.Lo, .int .i64 x.Steps.2.Hi, .int .i64 x.Spread, .int .i64 x.Ratio.Lo, .int .i64 x.Ratio.Hi, .int .i64 x.Match.Lo, .int .i64 x.Match.Hi, .int .i64 x.Turn.Lo, .int .i64 x.Turn.Hi]
abbrev api_Echo.ag (x : api_Echo) : Value := .agg #[.int .i64 x.Kind, .int .i64 x.Power.Lo, .int .i64 x.Power.Hi, .int .i64 x.Steps.1.Lo, .int .i64 x.Steps.1.Hi, .int .i64 x.Steps.2.Lo, .int .i64 x.Steps.2.Hi, .int .i64 x.Spread, .int .i64 x.Ratio.Lo, .int .i64 x.Ratio.Hi, .int .i64 x.Match.Lo, .int .i64 x.Match.Hi, .int .i64 x.Turn.Lo, .int .i64 x.Turn.Hi]

abbrev fold_option.ar (x : fold_option) : Array Value := #[.int .i64 x.whole, .int .i64 x.speed.Lo, .int .i64 x.speed.Hi]
abbrev fold_option.ag (x : fold_option) : Value := .agg #[.int .i64 x.whole, .int .i64 x.speed.Lo, .int .i64 x.speed.Hi]

abbrev fold_Guess.ar (x : fold_Guess) : Array Value := #[.int .i64 x.Whole.1, .int .i64 x.Whole.2, .int .i64 x.Speed.Lo, .int .i64 x.Speed.Hi]
abbrev fold_Guess.ag (x : fold_Guess) : Value := .agg #[.int .i64 x.Whole.1, .int .i64 x.Whole.2, .int .i64 x.Speed.Lo, .int .i64 x.Speed.Hi]

abbrev ref02_Train.ar (x : ref02_Train) : Array Value := #[.int .i64 x.Lambda, .int .i64 x.Kind, .int .i64 x.First, .int .i64 x.Second, .int .i64 x.Count]
abbrev ref02_Train.ag (x : ref02_Train) : Value := .agg #[.int .i64 x.Lambda, .int .i64 x.Kind, .int .i64 x.First, .int .i64 x.Second, .int .i64 x.Count]

abbrev ref03_Guess.ar (x : ref03_Guess) : Array Value := #[.int .i64 x.Whole.1, .int .i64 x.Whole.2, .int .i64 x.Speed.Lo, .int .i64 x.Speed.Hi]
abbrev ref03_Guess.ag (x : ref03_Guess) : Value := .agg #[.int .i64 x.Whole.1, .int .i64 x.Whole.2, .int .i64 x.Speed.Lo, .int .i64 x.Speed.Hi]


def law03_works : Bool := true
def pulse_within (p0 : Int) (p1 : Int) (p2 : Int) : Bool :=
  bif (decide (p1 ≤ p0)) then (decide (p0 ≤ p2)) else false

def pulse_CheckTrain_K2 (p0 : pulse_Train) (x3 : Int) (c5 : Bool) : Option Int :=
  bif (bif (bif (bif (!c5) then true else (!(pulse_within p0.Lambda 10000 1000000))) then true else (!(pulse_within p0.First 200 5000))) then true else (!(pulse_within p0.Count x3 64))) then (some 3) else (some 0)

def pulse_CheckTrain_K1 (p0 : pulse_Train) (x3 : Int) (c4 : Bool) : Option Int :=
  bif (p0.Kind != 1) then (pulse_CheckTrain_K2 p0 x3 (bif (bif c4 then (pulse_within p0.Second 200 5000) else false) then (decide (p0.First < p0.Second)) else false)) else (pulse_CheckTrain_K2 p0 x3 c4)

def pulse_CheckTrain (F : Nat) (p0 : pulse_Train) : Option Int :=
  bif (p0.Kind == 1) then (pulse_CheckTrain_K1 p0 2 (p0.Second == 0)) else (bif (p0.Kind == 2) then ((remC p0.Count 2).bind fun x8 =>
  pulse_CheckTrain_K1 p0 4 (x8 == 0)) else (bif (p0.Kind == 3) then (pulse_CheckTrain_K1 p0 3 true) else (some 2)))

def pulse_inside (p0 : api_Span) (p1 : Int) (p2 : Int) : Bool :=
  bif (bif (decide (p1 ≤ p0.Lo)) then (decide (p0.Lo ≤ p0.Hi)) else false) then (decide (p0.Hi ≤ p2)) else false

def pulse_turning_K1 : Option Bool :=
  some true

def pulse_turning_B2 (p0 : (List api_Span)) (k2 : (Int → Option Bool)) (x34 : Int) : Option Bool :=
  bif (decide (x34 < ((p0.length : Nat) : Int))) then ((getI p0 x34).bind fun u36 =>
  (gd (((!(pulse_within u36.Lo (-32768) 32767)) == false && true)) (ck (u36.Lo + 65536)) 0).bind fun x38 =>
  (gd (((!(pulse_within u36.Lo (-32768) 32767)) == false && true)) (ck (x38 - 1)) 0).bind fun x39 =>
  bif (bif (!(pulse_within u36.Lo (-32768) 32767)) then true else (!(pulse_within u36.Hi u36.Lo x39))) then (some false) else ((ck (x34 + 1)).bind fun x40 =>
  k2 x40)) else (pulse_turning_K1)

def pulse_turning_L2 (p0 : (List api_Span)) : Nat → Int → Option Bool
  | 0, _ => none
  | n + 1, x34 => pulse_turning_B2 p0 (pulse_turning_L2 p0 n) x34

def pulse_turning (F : Nat) (p0 : (List api_Span)) : Option Bool :=
  pulse_turning_L2 p0 F 0

def pulse_CheckEcho_K1 (c7 : Bool) : Option Int :=
  bif (!c7) then (some 3) else (some 0)

def pulse_CheckEcho_K2 (F : Nat) (p0 : api_Echo) (c9 : Bool) : Option Int :=
  bif c9 then (bif (p0.Kind == 2) then (pulse_CheckEcho_K1 (bif (bif (bif (bif (bif (bif (pulse_inside p0.Power 0 1073741824) then (decide (p0.Power.Lo > 0)) else false) then (pulse_inside p0.Ratio 0 1000000) else false) then (pulse_inside p0.Match 0 1000) else false) then (pulse_within p0.Spread 0 65535) else false) then ((((p0.Steps.1.Lo : Int) == 0) && (((p0.Steps.1.Hi : Int) == 0) && true)) && ((((p0.Steps.2.Lo : Int) == 0) && (((p0.Steps.2.Hi : Int) == 0) && true)) && true)) else false) then (((p0.Turn.Lo : Int) == 0) && (((p0.Turn.Hi : Int) == 0) && true)) else false)) else (bif (bif (bif (bif (bif (pulse_inside p0.Power 0 1073741824) then (decide (p0.Power.Lo > 0)) else false) then (pulse_inside p0.Ratio 0 1000000) else false) then (pulse_inside p0.Match 0 1000) else false) then (pulse_within p0.Spread 0 65535) else false) then ((pulse_turning F ([(api_Span.mk p0.Steps.1.Lo p0.Steps.1.Hi), (api_Span.mk p0.Steps.2.Lo p0.Steps.2.Hi), p0.Turn])).bind fun y12 =>
  pulse_CheckEcho_K1 y12) else (pulse_CheckEcho_K1 false))) else (some 2)

def pulse_CheckEcho (F : Nat) (p0 : api_Echo) : Option Int :=
  bif (p0.Kind == 1) then (pulse_CheckEcho_K1 (bif (pulse_inside p0.Power 0 1073741824) then (((p0.Kind : Int) == 1) && ((((p0.Power.Lo : Int) == 0) && (((p0.Power.Hi : Int) == p0.Power.Hi) && true)) && (((((p0.Steps.1.Lo : Int) == 0) && (((p0.Steps.1.Hi : Int) == 0) && true)) && ((((p0.Steps.2.Lo : Int) == 0) && (((p0.Steps.2.Hi : Int) == 0) && true)) && true)) && (((p0.Spread : Int) == 0) && ((((p0.Ratio.Lo : Int) == 0) && (((p0.Ratio.Hi : Int) == 0) && true)) && ((((p0.Match.Lo : Int) == 0) && (((p0.Match.Hi : Int) == 0) && true)) && ((((p0.Turn.Lo : Int) == 0) && (((p0.Turn.Hi : Int) == 0) && true)) && true))))))) else false)) else (bif (p0.Kind == 2) then (pulse_CheckEcho_K2 F p0 (p0.Kind == 2)) else (pulse_CheckEcho_K2 F p0 (p0.Kind == 3)))

def fold_bound (p0 : Int) : Bool :=
  bif (decide (p0 ≥ 1)) then (decide (p0 ≤ 200000)) else false

def fold_common (p0 : api_Span) (p1 : api_Span) : (api_Span × Bool) :=
  ((api_Span.mk (if p1.Lo > p0.Lo then p1.Lo else p0.Lo) (if p1.Hi < p0.Hi then p1.Hi else p0.Hi)), decide ((if p1.Lo > p0.Lo then p1.Lo else p0.Lo) ≤ (if p1.Hi < p0.Hi then p1.Hi else p0.Hi)))

def pulse_Train_time (F : Nat) (p0 : pulse_Train) (p1 : Int) : Option (Int × Int) :=
  (pulse_CheckTrain F p0).bind fun y2 =>
  bif (y2 != 0) then (some (0, y2)) else (bif (!(pulse_within p1 0 1)) then (bif (bif (!(pulse_within p1 0 1)) then true else (0 == 0)) then (some (0, 2)) else (bif (p1 == 0) then (some (p0.First, 0)) else (bif (p1 == 1) then (some (p0.Second, 0)) else (none)))) else (bif (p1 == 0) then (bif (bif (!(pulse_within p1 0 1)) then true else (p0.First == 0)) then (some (0, 2)) else (some (p0.First, 0))) else (bif (p1 == 1) then (bif (bif (!(pulse_within p1 0 1)) then true else (p0.Second == 0)) then (some (0, 2)) else (some (p0.Second, 0))) else (none))))

def pulse_down (F : Nat) (p0 : Int) (p1 : Int) : Option Int :=
  (quoC p0 p1).bind fun x1 =>
  (ck (x1 * p1)).bind fun x2 =>
  bif (decide (x2 > p0)) then ((ck (x1 - 1)).bind fun x3 =>
  some x3) else (some x1)

def pulse_up (F : Nat) (p0 : Int) (p1 : Int) : Option Int :=
  (pulse_down F (IntKind.i64.wrap (0 - p0)) p1).bind fun y1 =>
  some (IntKind.i64.wrap (0 - y1))

def pulse_Speed_1_at141 (F : Nat) (p0 : Int) (c0_ : pulse_Train) (c1_ : Int) (c2_ : Int) : Option Int :=
  (ck (500 * c0_.Lambda)).bind fun x1 =>
  (ck (c1_ * 65536)).bind fun x2 =>
  (ck (p0 + x2)).bind fun x3 =>
  (ck (x1 * x3)).bind fun x4 =>
  (ck (65536 * c2_)).bind fun x5 =>
  (pulse_down F x4 x5).bind fun y6 =>
  some y6

def pulse_Speed_1_at142 (F : Nat) (p0 : Int) (c0_ : pulse_Train) (c1_ : Int) (c2_ : Int) : Option Int :=
  (ck (500 * c0_.Lambda)).bind fun x1 =>
  (ck (c1_ * 65536)).bind fun x2 =>
  (ck (p0 + x2)).bind fun x3 =>
  (ck (x1 * x3)).bind fun x4 =>
  (ck (65536 * c2_)).bind fun x5 =>
  (pulse_up F x4 x5).bind fun y6 =>
  some y6

def pulse_Speed (F : Nat) (p0 : pulse_Train) (p1 : Int) (p2 : api_Span) (p3 : Int) : Option (api_Span × Int) :=
  (pulse_Train_time F p0 p1).bind fun y5 =>
  bif (y5.2 != 0) then (some ((api_Span.mk 0 0), y5.2)) else (bif (bif (!(pulse_inside p2 (-131072) 131072)) then true else (!(pulse_within p3 (-64) 64))) then (some ((api_Span.mk 0 0), 3)) else ((pulse_Speed_1_at141 F p2.Lo p0 p3 y5.1).bind fun y8 =>
  (pulse_Speed_1_at142 F p2.Hi p0 p3 y5.1).bind fun y12 =>
  some ((api_Span.mk y8 y12), 0)))

def fold_options_1_B1 {σ : Type} (F : Nat) (body : (σ → fold_option → Option (σ × Bool))) (c0_ : pulse_Train) (c1_ : Int) (c2_ : api_Echo) (c3_ : Int) (k1 : (Int → σ → Option (σ × Bool))) (x103 : Int) (s104 : σ) : Option (σ × Bool) :=
  bif (decide (x103 ≤ 64)) then (bif (c1_ == 0) then ((pulse_Speed F c0_ c1_ (api_Span.mk c2_.Steps.1.Lo c2_.Steps.1.Hi) x103).bind fun y110 =>
  bif ((fold_common (api_Span.mk y110.1.Lo y110.1.Hi) (api_Span.mk (IntKind.i64.wrap (0 - c3_)) c3_)).2) then ((body s104 (fold_option.mk x103 (api_Span.mk (((fold_common (api_Span.mk y110.1.Lo y110.1.Hi) (api_Span.mk (IntKind.i64.wrap (0 - c3_)) c3_)).1).Lo) (((fold_common (api_Span.mk y110.1.Lo y110.1.Hi) (api_Span.mk (IntKind.i64.wrap (0 - c3_)) c3_)).1).Hi)))).bind fun q125 =>
  bif q125.2 then ((ck (x103 + 1)).bind fun x130 =>
  k1 x130 q125.1) else (some (q125.1, false))) else ((ck (x103 + 1)).bind fun x131 =>
  k1 x131 s104)) else (bif (c1_ == 1) then ((pulse_Speed F c0_ c1_ (api_Span.mk c2_.Steps.2.Lo c2_.Steps.2.Hi) x103).bind fun y134 =>
  bif ((fold_common (api_Span.mk y134.1.Lo y134.1.Hi) (api_Span.mk (IntKind.i64.wrap (0 - c3_)) c3_)).2) then ((body s104 (fold_option.mk x103 (api_Span.mk (((fold_common (api_Span.mk y134.1.Lo y134.1.Hi) (api_Span.mk (IntKind.i64.wrap (0 - c3_)) c3_)).1).Lo) (((fold_common (api_Span.mk y134.1.Lo y134.1.Hi) (api_Span.mk (IntKind.i64.wrap (0 - c3_)) c3_)).1).Hi)))).bind fun q149 =>
  bif q149.2 then ((ck (x103 + 1)).bind fun x154 =>
  k1 x154 q149.1) else (some (q149.1, false))) else ((ck (x103 + 1)).bind fun x155 =>
  k1 x155 s104)) else (none))) else (some (s104, true))

def fold_options_1_L1 {σ : Type} (F : Nat) (body : (σ → fold_option → Option (σ × Bool))) (c0_ : pulse_Train) (c1_ : Int) (c2_ : api_Echo) (c3_ : Int) : Nat → Int → σ → Option (σ × Bool)
  | 0, _, _ => none
  | n + 1, x103, s104 => fold_options_1_B1 F body c0_ c1_ c2_ c3_ (fold_options_1_L1 F body c0_ c1_ c2_ c3_ n) x103 s104

def fold_options_1 {σ : Type} (F : Nat) (c0_ : pulse_Train) (c1_ : Int) (c2_ : api_Echo) (c3_ : Int) (body : σ → fold_option → Option (σ × Bool)) (s_ : σ) : Option (σ × Bool) :=
  fold_options_1_L1 F body c0_ c1_ c2_ c3_ F (-64) s_

def fold_options (p0 : pulse_Train) (p1 : api_Echo) (p2 : Int) (p3 : Int) : Unit :=
  ()

def fold_list_Y1 (s_r : ((List fold_option) × Nat)) (x_ : fold_option) : Option (((List fold_option) × Nat) × Bool) :=
  (apd 24 s_r.1 ([x_])).bind fun l49 =>
  some ((l49, 0), true)

def fold_list_c1 (tg_ : Nat) : Code := .ret

def fold_list (F : Nat) (p0 : pulse_Train) (p1 : api_Echo) (p2 : Int) (p3 : Int) : Option ((List fold_option) × Bool) :=
  (fold_options_1 F p0 p2 (api_Echo.mk p1.Kind p1.Power ((api_Span.mk p1.Steps.1.Lo p1.Steps.1.Hi), (api_Span.mk p1.Steps.2.Lo p1.Steps.2.Hi)) p1.Spread p1.Ratio p1.Match p1.Turn) p3 (fold_list_Y1) (([] : List fold_option), 0)).bind fun r52 =>
  bif r52.2 then ((gd (((decide (((r52.1.1.length : Nat) : Int) > 0)) == true && true)) (getI r52.1.1 0) default).bind fun u56 =>
  (gd (((u56.whole == (-64)) == false && ((decide (((r52.1.1.length : Nat) : Int) > 0)) == true && true))) (ck (((r52.1.1.length : Nat) : Int) - 1)) 0).bind fun x57 =>
  (gd (((u56.whole == (-64)) == false && ((decide (((r52.1.1.length : Nat) : Int) > 0)) == true && true))) (getI r52.1.1 x57) default).bind fun u58 =>
  bif (bif (decide (((r52.1.1.length : Nat) : Int) > 0)) then (bif (u56.whole == (-64)) then true else (u58.whole == 64)) else false) then (some (([] : (List fold_option)), false)) else (some (r52.1.1, true))) else (none)

def fold_guesses_K2 (y72 : ((List fold_option) × Bool)) (l509 : (List fold_Guess)) : Option ((List fold_Guess) × Bool) :=
  some (l509, y72.2)

def fold_guesses_K4 (x800 : Int) (k3 : ((List fold_Guess) → Int → Option ((List fold_Guess) × Bool))) (l872 : (List fold_Guess)) : Option ((List fold_Guess) × Bool) :=
  (ck (x800 + 1)).bind fun x873 =>
  k3 l872 x873

def fold_guesses_K6 (x922 : Int) (k5 : ((List fold_Guess) → Int → Option ((List fold_Guess) × Bool))) (l933 : (List fold_Guess)) : Option ((List fold_Guess) × Bool) :=
  (ck (x922 + 1)).bind fun x934 =>
  k5 l933 x934

def fold_guesses_B5 (y72 : ((List fold_option) × Bool)) (x800 : Int) (k3 : ((List fold_Guess) → Int → Option ((List fold_Guess) × Bool))) (u875 : fold_option) (k5 : ((List fold_Guess) → Int → Option ((List fold_Guess) × Bool))) (l921 : (List fold_Guess)) (x922 : Int) : Option ((List fold_Guess) × Bool) :=
  bif (decide (x922 < ((y72.1.length : Nat) : Int))) then ((getI y72.1 x922).bind fun u936 =>
  bif ((fold_common u875.speed u936.speed).2) then ((apd 32 l921 ([(fold_Guess.mk (u875.whole, u936.whole) (api_Span.mk (((fold_common u875.speed u936.speed).1).Lo) (((fold_common u875.speed u936.speed).1).Hi)))])).bind fun l940 =>
  fold_guesses_K6 x922 k5 l940) else (fold_guesses_K6 x922 k5 l921)) else (fold_guesses_K4 x800 k3 l921)

def fold_guesses_L5 (y72 : ((List fold_option) × Bool)) (x800 : Int) (k3 : ((List fold_Guess) → Int → Option ((List fold_Guess) × Bool))) (u875 : fold_option) : Nat → (List fold_Guess) → Int → Option ((List fold_Guess) × Bool)
  | 0, _, _ => none
  | n + 1, l921, x922 => fold_guesses_B5 y72 x800 k3 u875 (fold_guesses_L5 y72 x800 k3 u875 n) l921 x922

def fold_guesses_B3 (F : Nat) (y4 : ((List fold_option) × Bool)) (y72 : ((List fold_option) × Bool)) (k3 : ((List fold_Guess) → Int → Option ((List fold_Guess) × Bool))) (l799 : (List fold_Guess)) (x800 : Int) : Option ((List fold_Guess) × Bool) :=
  bif (decide (x800 < ((y4.1.length : Nat) : Int))) then ((getI y4.1 x800).bind fun u875 =>
  fold_guesses_L5 y72 x800 k3 u875 F l799 0) else (fold_guesses_K2 y72 l799)

def fold_guesses_L3 (F : Nat) (y4 : ((List fold_option) × Bool)) (y72 : ((List fold_option) × Bool)) : Nat → (List fold_Guess) → Int → Option ((List fold_Guess) × Bool)
  | 0, _, _ => none
  | n + 1, l799, x800 => fold_guesses_B3 F y4 y72 (fold_guesses_L3 F y4 y72 n) l799 x800

def fold_guesses_K1 (F : Nat) (p0 : pulse_Train) (p1 : api_Echo) (p2 : Int) (y4 : ((List fold_option) × Bool)) : Option ((List fold_Guess) × Bool) :=
  (fold_list F p0 (api_Echo.mk p1.Kind p1.Power ((api_Span.mk p1.Steps.1.Lo p1.Steps.1.Hi), (api_Span.mk p1.Steps.2.Lo p1.Steps.2.Hi)) p1.Spread p1.Ratio p1.Match p1.Turn) 1 p2).bind fun y72 =>
  fold_guesses_L3 F y4 y72 F ([]) 0

def fold_guesses_K7 (l976 : (List fold_Guess)) : Option ((List fold_Guess) × Bool) :=
  some (l976, true)

def fold_guesses_B8 (y4 : ((List fold_option) × Bool)) (k8 : ((List fold_Guess) → Int → Option ((List fold_Guess) × Bool))) (l998 : (List fold_Guess)) (x999 : Int) : Option ((List fold_Guess) × Bool) :=
  bif (decide (x999 < ((y4.1.length : Nat) : Int))) then ((getI y4.1 x999).bind fun u1001 =>
  (apd 32 l998 ([(fold_Guess.mk (u1001.whole, 0) u1001.speed)])).bind fun l1004 =>
  (ck (x999 + 1)).bind fun x1007 =>
  k8 l1004 x1007) else (fold_guesses_K7 l998)

def fold_guesses_L8 (y4 : ((List fold_option) × Bool)) : Nat → (List fold_Guess) → Int → Option ((List fold_Guess) × Bool)
  | 0, _, _ => none
  | n + 1, l998, x999 => fold_guesses_B8 y4 (fold_guesses_L8 y4 n) l998 x999

def fold_guesses (F : Nat) (p0 : pulse_Train) (p1 : api_Echo) (p2 : Int) : Option ((List fold_Guess) × Bool) :=
  (fold_list F p0 (api_Echo.mk p1.Kind p1.Power ((api_Span.mk p1.Steps.1.Lo p1.Steps.1.Hi), (api_Span.mk p1.Steps.2.Lo p1.Steps.2.Hi)) p1.Spread p1.Ratio p1.Match p1.Turn) 0 p2).bind fun y4 =>
  bif (!y4.2) then (some (([] : (List fold_Guess)), false)) else (bif (p0.Kind == 1) then (fold_guesses_L8 y4 F ([]) 0) else (fold_guesses_K1 F p0 p1 p2 y4))

def fold_Guesses (F : Nat) (p0 : pulse_Train) (p1 : api_Echo) (p2 : Int) : Option ((List fold_Guess) × Int) :=
  (pulse_CheckTrain F p0).bind fun y3 =>
  bif (y3 != 0) then (some (([] : (List fold_Guess)), y3)) else ((pulse_CheckEcho F (api_Echo.mk p1.Kind p1.Power ((api_Span.mk p1.Steps.1.Lo p1.Steps.1.Hi), (api_Span.mk p1.Steps.2.Lo p1.Steps.2.Hi)) p1.Spread p1.Ratio p1.Match p1.Turn)).bind fun y4 =>
  bif (y4 != 0) then (some (([] : (List fold_Guess)), y4)) else (bif (!(fold_bound p2)) then (some (([] : (List fold_Guess)), 3)) else (bif (p1.Kind != 3) then (some (([] : (List fold_Guess)), 18)) else ((fold_guesses F p0 (api_Echo.mk p1.Kind p1.Power ((api_Span.mk p1.Steps.1.Lo p1.Steps.1.Hi), (api_Span.mk p1.Steps.2.Lo p1.Steps.2.Hi)) p1.Spread p1.Ratio p1.Match p1.Turn) p2).bind fun y6 =>
  bif (!y6.2) then (some (([] : (List fold_Guess)), 9)) else (some (y6.1, 0))))))

def ref01_Down (F : Nat) (p0 : Int) (p1 : Int) : Option Int :=
  (quoC p0 p1).bind fun x1 =>
  (remC p0 p1).bind fun x2 =>
  bif (decide (x2 < 0)) then ((ck (x1 - 1)).bind fun x3 =>
  some x3) else (some x1)

def law03_span (p0 : Int) (p1 : Int) : api_Span :=
  (api_Span.mk p0 p1)

def law03_echo (p0 : api_Span) (p1 : api_Span) : api_Echo :=
  (api_Echo.mk 3 (law03_span 1 1) (p0, p1) 0 (api_Span.mk 0 0) (api_Span.mk 0 0) (api_Span.mk 0 0))

def law03_Air_train (F : Nat) (p0 : law03_Air) : Option pulse_Train :=
  (ck p0.Lambda).bind fun x12 =>
  (ck (400 * x12)).bind fun x13 =>
  (ck (30000 + x13)).bind fun x14 =>
  (ck p0.Kind).bind fun x15 =>
  (remC x15 3).bind fun x16 =>
  (ck (1 + x16)).bind fun x17 =>
  (ck p0.First).bind fun x18 =>
  (remC x18 1000).bind fun x19 =>
  (ck (500 + x19)).bind fun x20 =>
  bif (x17 != 1) then ((ck (x20 + 1)).bind fun x22 =>
  (ck p0.Second).bind fun x23 =>
  (remC x23 1500).bind fun x24 =>
  (ck (x22 + x24)).bind fun x25 =>
  some (pulse_Train.mk x14 x17 x20 x25 4)) else (some (pulse_Train.mk x14 x17 x20 0 4))

def law03_down (F : Nat) (p0 : Int) (p1 : Int) : Option Int :=
  (quoC p0 p1).bind fun x1 =>
  (remC p0 p1).bind fun x2 =>
  bif (decide (x2 < 0)) then ((ck (x1 - 1)).bind fun x3 =>
  some x3) else (some x1)

def law03_step (F : Nat) (p0 : pulse_Train) (p1 : Int) (p2 : Int) (p3 : Int) (p4 : Int) : Option api_Span :=
  (ck (p2 * 65536)).bind fun x3 =>
  (ck (x3 * p1)).bind fun x4 =>
  (ck (500 * p0.Lambda)).bind fun x5 =>
  (law03_down F x4 x5).bind fun y6 =>
  (ck (y6 - p3)).bind fun x7 =>
  (law03_down F (IntKind.i64.wrap (0 - x4)) x5).bind fun y8 =>
  (ck ((IntKind.i64.wrap (0 - y8)) + p4)).bind fun x9 =>
  (ck (((law03_span x7 x9).Lo) + 32768)).bind fun x11 =>
  (law03_down F x11 65536).bind fun y12 =>
  (ck (y12 * 65536)).bind fun x13 =>
  (ck (((law03_span x7 x9).Lo) - x13)).bind fun x14 =>
  (ck (((law03_span x7 x9).Hi) - x13)).bind fun x15 =>
  some (law03_span x14 x15)

def law03_among_K1 : Option Bool :=
  some false

def law03_among_B2 (p0 : (List fold_Guess)) (p1 : Int) (p2 : api_Span) (k2 : (Int → Option Bool)) (x25 : Int) : Option Bool :=
  bif (decide (x25 < ((p0.length : Nat) : Int))) then ((getI p0 x25).bind fun u27 =>
  bif (u27.Whole.1 == p1) then (some (bif (decide (u27.Speed.Lo ≤ p2.Lo)) then (decide (u27.Speed.Hi ≥ p2.Hi)) else false)) else ((ck (x25 + 1)).bind fun x29 =>
  k2 x29)) else (law03_among_K1)

def law03_among_L2 (p0 : (List fold_Guess)) (p1 : Int) (p2 : api_Span) : Nat → Int → Option Bool
  | 0, _ => none
  | n + 1, x25 => law03_among_B2 p0 p1 p2 (law03_among_L2 p0 p1 p2 n) x25

def law03_among (F : Nat) (p0 : (List fold_Guess)) (p1 : Int) (p2 : api_Span) : Option Bool :=
  law03_among_L2 p0 p1 p2 F 0

def law03_FoldTimes_K1 : Option Bool :=
  some law03_works

def law03_FoldTimes_B2 (F : Nat) (y66 : ((List fold_Guess) × Int)) (y72 : ((List fold_Guess) × Int)) (y77 : ((List fold_Guess) × Int)) (k2 : (Int → Option Bool)) (x119 : Int) : Option Bool :=
  bif (decide (x119 < ((y66.1.length : Nat) : Int))) then ((getI y66.1 x119).bind fun u121 =>
  (law03_among F y72.1 u121.Whole.1 u121.Speed).bind fun y123 =>
  (gd (((!y123) == false && true)) (law03_among F y77.1 u121.Whole.2 u121.Speed) default).bind fun y124 =>
  bif (bif (!y123) then true else (!y124)) then (some false) else ((ck (x119 + 1)).bind fun x125 =>
  k2 x125)) else (law03_FoldTimes_K1)

def law03_FoldTimes_L2 (F : Nat) (y66 : ((List fold_Guess) × Int)) (y72 : ((List fold_Guess) × Int)) (y77 : ((List fold_Guess) × Int)) : Nat → Int → Option Bool
  | 0, _ => none
  | n + 1, x119 => law03_FoldTimes_B2 F y66 y72 y77 (law03_FoldTimes_L2 F y66 y72 y77 n) x119

def law03_FoldTimes (F : Nat) (p0 : law03_Air) (p1 : (Int × Int)) (p2 : Int) : Option Bool :=
  (remC p0.Kind 2).bind fun x12 =>
  (law03_Air_train F (law03_Air.mk (IntKind.u8.wrap (1 + x12)) p0.Lambda p0.First p0.Second p0.Rose p0.Gates p0.Base p0.Speeds p0.Blank p0.Less p0.More p0.Jump)).bind fun y13 =>
  (ck p0.Base).bind fun x15 =>
  (ck p1.1).bind fun x16 =>
  (remC x16 30000).bind fun x17 =>
  (ck p1.2).bind fun x18 =>
  (remC x18 30000).bind fun x19 =>
  (ck p0.Jump).bind fun x20 =>
  (remC x20 8000).bind fun x21 =>
  (ck (x15 + x21)).bind fun x22 =>
  (ck p1.2).bind fun x23 =>
  (remC x23 30000).bind fun x24 =>
  (ck p1.1).bind fun x25 =>
  (remC x25 30000).bind fun x26 =>
  (law03_step F y13 y13.First x15 x17 x19).bind fun y28 =>
  (law03_step F y13 y13.Second x22 x24 x26).bind fun y30 =>
  (ck p2).bind fun x62 =>
  (remC x62 60000).bind fun x63 =>
  (ck (1 + x63)).bind fun x64 =>
  (fold_Guesses F y13 (api_Echo.mk ((law03_echo y28 y30).Kind) ((law03_echo y28 y30).Power) ((api_Span.mk ((((law03_echo y28 y30).Steps).1).Lo) ((((law03_echo y28 y30).Steps).1).Hi)), (api_Span.mk ((((law03_echo y28 y30).Steps).2).Lo) ((((law03_echo y28 y30).Steps).2).Hi))) ((law03_echo y28 y30).Spread) ((law03_echo y28 y30).Ratio) ((law03_echo y28 y30).Match) ((law03_echo y28 y30).Turn)) x64).bind fun y66 =>
  (fold_Guesses F (pulse_Train.mk y13.Lambda 1 y13.First 0 4) (api_Echo.mk ((law03_echo y28 y30).Kind) ((law03_echo y28 y30).Power) ((api_Span.mk ((((law03_echo y28 y30).Steps).1).Lo) ((((law03_echo y28 y30).Steps).1).Hi)), (api_Span.mk ((((law03_echo y28 y30).Steps).2).Lo) ((((law03_echo y28 y30).Steps).2).Hi))) ((law03_echo y28 y30).Spread) ((law03_echo y28 y30).Ratio) ((law03_echo y28 y30).Match) ((law03_echo y28 y30).Turn)) x64).bind fun y72 =>
  (fold_Guesses F (pulse_Train.mk y13.Lambda 1 y13.Second 0 4) (api_Echo.mk ((law03_echo (api_Span.mk ((((law03_echo y28 y30).Steps).2).Lo) ((((law03_echo y28 y30).Steps).2).Hi)) (api_Span.mk 0 0)).Kind) ((law03_echo (api_Span.mk ((((law03_echo y28 y30).Steps).2).Lo) ((((law03_echo y28 y30).Steps).2).Hi)) (api_Span.mk 0 0)).Power) ((api_Span.mk ((((law03_echo (api_Span.mk ((((law03_echo y28 y30).Steps).2).Lo) ((((law03_echo y28 y30).Steps).2).Hi)) (api_Span.mk 0 0)).Steps).1).Lo) ((((law03_echo (api_Span.mk ((((law03_echo y28 y30).Steps).2).Lo) ((((law03_echo y28 y30).Steps).2).Hi)) (api_Span.mk 0 0)).Steps).1).Hi)), (api_Span.mk ((((law03_echo (api_Span.mk ((((law03_echo y28 y30).Steps).2).Lo) ((((law03_echo y28 y30).Steps).2).Hi)) (api_Span.mk 0 0)).Steps).2).Lo) ((((law03_echo (api_Span.mk ((((law03_echo y28 y30).Steps).2).Lo) ((((law03_echo y28 y30).Steps).2).Hi)) (api_Span.mk 0 0)).Steps).2).Hi))) ((law03_echo (api_Span.mk ((((law03_echo y28 y30).Steps).2).Lo) ((((law03_echo y28 y30).Steps).2).Hi)) (api_Span.mk 0 0)).Spread) ((law03_echo (api_Span.mk ((((law03_echo y28 y30).Steps).2).Lo) ((((law03_echo y28 y30).Steps).2).Hi)) (api_Span.mk 0 0)).Ratio) ((law03_echo (api_Span.mk ((((law03_echo y28 y30).Steps).2).Lo) ((((law03_echo y28 y30).Steps).2).Hi)) (api_Span.mk 0 0)).Match) ((law03_echo (api_Span.mk ((((law03_echo y28 y30).Steps).2).Lo) ((((law03_echo y28 y30).Steps).2).Hi)) (api_Span.mk 0 0)).Turn)) x64).bind fun y77 =>
  bif (bif (bif (y66.2 != 0) then true else (y72.2 != 0)) then true else (y77.2 != 0)) then (some false) else (law03_FoldTimes_L2 F y66 y72 y77 F 0)
end Go.Proofs.Ytbhjgebjojdohaa
