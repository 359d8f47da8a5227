/- Plain programs, written by program (wip/gen/dec.py). -/
import Derived.Test.YtejffembnkojjaaC10EB
namespace Go.Proofs.Ytejffembnkojjaa
open Go Go.RowKit Go.Eng
set_option maxRecDepth 10000
set_option maxHeartbeats 4000000
set_option linter.unusedVariables false
set_option linter.unusedSimpArgs false
structure pulse_Train where
  Lambda : Int
  Kind : Int
  First : Int
  Second : Int
  Count : Int
  deriving Inhabited, DecidableEq

def pulse_Train.cells (x : pulse_Train) : List Value := [.int .i64 x.Lambda, .int .i64 x.Kind, .int .i64 x.First, .int .i64 x.Second, .int .i64 x.Count]
theorem pulse_Train.cells_len (x : pulse_Train) : (pulse_Train.cells x).length = 5 := rfl

structure plan_Radar where
  Rays : Int
  Turn : Int
  Move : Int
  Duty : Int
  deriving Inhabited, DecidableEq

def plan_Radar.cells (x : plan_Radar) : List Value := [.int .i64 x.Rays, .int .i64 x.Turn, .int .i64 x.Move, .int .i64 x.Duty]
theorem plan_Radar.cells_len (x : plan_Radar) : (plan_Radar.cells x).length = 4 := rfl

structure plan_Job where
  Tilt : Int
  Train : pulse_Train
  Width : Int
  Every : Int
  deriving Inhabited, DecidableEq

def plan_Job.cells (x : plan_Job) : List Value := [.int .i64 x.Tilt, .int .i64 x.Train.Lambda, .int .i64 x.Train.Kind, .int .i64 x.Train.First, .int .i64 x.Train.Second, .int .i64 x.Train.Count, .int .i64 x.Width, .int .i64 x.Every]
theorem plan_Job.cells_len (x : plan_Job) : (plan_Job.cells x).length = 8 := rfl

structure ref02_Train where
  Lambda : Int
  Kind : Int
  First : Int
  Second : Int
  Count : Int
  deriving Inhabited, DecidableEq

def ref02_Train.cells (x : ref02_Train) : List Value := [.int .i64 x.Lambda, .int .i64 x.Kind, .int .i64 x.First, .int .i64 x.Second, .int .i64 x.Count]
theorem ref02_Train.cells_len (x : ref02_Train) : (ref02_Train.cells x).length = 5 := rfl

structure ref06_Job where
  Tilt : Int
  Train : ref02_Train
  Width : Int
  Every : Int
  deriving Inhabited, DecidableEq

def ref06_Job.cells (x : ref06_Job) : List Value := [.int .i64 x.Tilt, .int .i64 x.Train.Lambda, .int .i64 x.Train.Kind, .int .i64 x.Train.First, .int .i64 x.Train.Second, .int .i64 x.Train.Count, .int .i64 x.Width, .int .i64 x.Every]
theorem ref06_Job.cells_len (x : ref06_Job) : (ref06_Job.cells x).length = 8 := rfl

structure ref06_Radar where
  Rays : Int
  Turn : Int
  Move : Int
  Duty : Int
  deriving Inhabited, DecidableEq

def ref06_Radar.cells (x : ref06_Radar) : List Value := [.int .i64 x.Rays, .int .i64 x.Turn, .int .i64 x.Move, .int .i64 x.Duty]
theorem ref06_Radar.cells_len (x : ref06_Radar) : (ref06_Radar.cells x).length = 4 := rfl

structure plan_desk where
  jobs : (List plan_Job)
  takes : (List Int)
  moves : (List (List Int))
  deriving Inhabited, DecidableEq

structure plan_line where
  desk : (Option plan_desk)
  jobs : (List Int)
  at_ : (List Int)
  done : Int
  deriving Inhabited, DecidableEq

structure plan_Cut where
  Begin : (List Int)
  Late : Int
  deriving Inhabited, DecidableEq

structure ref06_Cut where
  Begin : (List Int)
  Late : Int
  deriving Inhabited, DecidableEq

structure law06_Wish where
  Tilt : Int
  Count : Int
  Kind : Int
  Width : Int
  First : Int
  Every : Int
  deriving Inhabited, DecidableEq

def law06_Wish.cells (x : law06_Wish) : List Value := [.int .u8 x.Tilt, .int .u8 x.Count, .int .u8 x.Kind, .int .u8 x.Width, .int .u8 x.First, .int .u16 x.Every]
theorem law06_Wish.cells_len (x : law06_Wish) : (law06_Wish.cells x).length = 6 := rfl

structure law06_Desk where
  Rays : Int
  Turn : Int
  Move : Int
  Duty : Int
  Jobs : (List law06_Wish)
  deriving Inhabited, DecidableEq

structure anon94 where
  now : Int
  ray : Int
  deriving Inhabited, DecidableEq

def anon94.cells (x : anon94) : List Value := [.int .i64 x.now, .int .i64 x.ray]
theorem anon94.cells_len (x : anon94) : (anon94.cells x).length = 2 := rfl

abbrev pulse_Train.ar (x : pulse_Train) : Array Value := #[.int .i64 x.Lambda, .int .i64 x.Kind, .int .i64 x.First, .int .i64 x.Second, .int .i64 x.Count]
abbrev pulse_Train.ag (x : pulse_Train) : Value := .agg #[.int .i64 x.Lambda, .int .i64 x.Kind, .int .i64 x.First, .int .i64 x.Second, .int .i64 x.Count]

abbrev plan_Radar.ar (x : plan_Radar) : Array Value := #[.int .i64 x.Rays, .int .i64 x.Turn, .int .i64 x.Move, .int .i64 x.Duty]
abbrev plan_Radar.ag (x : plan_Radar) : Value := .agg #[.int .i64 x.Rays, .int .i64 x.Turn, .int .i64 x.Move, .int .i64 x.Duty]

abbrev plan_Job.ar (x : plan_Job) : Array Value := #[.int .i64 x.Tilt, .int .i64 x.Train.Lambda, .int .i64 x.Train.Kind, .int .i64 x.Train.First, .int .i64 x.Train.Second, .int .i64 x.Train.Count, .int .i64 x.Width, .int .i64 x.Every]
abbrev plan_Job.ag (x : plan_Job) : Value := .agg #[.int .i64 x.Tilt, .int .i64 x.Train.Lambda, .int .i64 x.Train.Kind, .int .i64 x.Train.First, .int .i64 x.Train.Second, .int .i64 x.Train.Count, .int .i64 x.Width, .int .i64 x.Every]

abbrev ref02_Train.ar (x : ref02_Train) : Array Value := #[.int .i64 x.Lambda, .int .i64 x.Kind, .int .i64 x.First, .int .i64 x.Second, .int .i64 x.Count]
abbrev ref02_Train.ag (x : ref02_Train) : Value := .agg #[.int .i64 x.Lambda, .int .i64 x.Kind, .int .i64 x.First, .int .i64 x.Second, .int .i64 x.Count]

abbrev ref06_Job.ar (x : ref06_Job) : Array Value := #[.int .i64 x.Tilt, .int .i64 x.Train.Lambda, .int .i64 x.Train.Kind, .int .i64 x.Train.First, .int .i64 x.Train.Second, .int .i64 x.Train.Count, .int .i64 x.Width, .int .i64 x.Every]
abbrev ref06_Job.ag (x : ref06_Job) : Value := .agg #[.int .i64 x.Tilt, .int .i64 x.Train.Lambda, .int .i64 x.Train.Kind, .int .i64 x.Train.First, .int .i64 x.Train.Second, .int .i64 x.Train.Count, .int .i64 x.Width, .int .i64 x.Every]

abbrev ref06_Radar.ar (x : ref06_Radar) : Array Value := #[.int .i64 x.Rays, .int .i64 x.Turn, .int .i64 x.Move, .int .i64 x.Duty]
abbrev ref06_Radar.ag (x : ref06_Radar) : Value := .agg #[.int .i64 x.Rays, .int .i64 x.Turn, .int .i64 x.Move, .int .i64 x.Duty]

abbrev law06_Wish.ar (x : law06_Wish) : Array Value := #[.int .u8 x.Tilt, .int .u8 x.Count, .int .u8 x.Kind, .int .u8 x.Width, .int .u8 x.First, .int .u16 x.Every]
abbrev law06_Wish.ag (x : law06_Wish) : Value := .agg #[.int .u8 x.Tilt, .int .u8 x.Count, .int .u8 x.Kind, .int .u8 x.Width, .int .u8 x.First, .int .u16 x.Every]

def Rp40 : Rel (List Int) := fun μ cs x => ∃ (ad1 : Option Addr) (cap2 : Nat), cs = [.slice ad1 x.length cap2] ∧ ArrM μ 1 fI ad1 cap2 x
theorem Rp40.mono : Rel.Mono Rp40 := by
  intro μ ν cs x hle h
  obtain ⟨ad1, cap2, rfl, f0⟩ := h
  exact ⟨ad1, cap2, rfl, f0.mono hle⟩
theorem Rp40.one : Rel.One 1 Rp40 := by
  intro μ cs x h
  obtain ⟨ad1, cap2, rfl, f0⟩ := h
  all_goals rfl

def Rp113 : Rel plan_desk := fun μ cs x => ∃ (ad1 : Option Addr) (cap2 : Nat) (ad3 : Option Addr) (cap4 : Nat) (ad5 : Option Addr) (cap6 : Nat) (css7 : List (List Value)), cs = [.slice ad1 x.jobs.length cap2, .slice ad3 x.takes.length cap4, .slice ad5 x.moves.length cap6] ∧ ArrM μ 8 plan_Job.cells ad1 cap2 x.jobs ∧ ArrM μ 1 fI ad3 cap4 x.takes ∧ ArrQ μ 1 Rp40 ad5 cap6 css7 x.moves
theorem Rp113.mono : Rel.Mono Rp113 := by
  intro μ ν cs x hle h
  obtain ⟨ad1, cap2, ad3, cap4, ad5, cap6, css7, rfl, f0, f1, f2⟩ := h
  exact ⟨ad1, cap2, ad3, cap4, ad5, cap6, css7, rfl, f0.mono hle, f1.mono hle, f2.mono Rp40.mono hle⟩
theorem Rp113.one : Rel.One 3 Rp113 := by
  intro μ cs x h
  obtain ⟨ad1, cap2, ad3, cap4, ad5, cap6, css7, rfl, f0, f1, f2⟩ := h
  all_goals rfl

def Rp65 : Rel plan_Cut := fun μ cs x => ∃ (ad1 : Option Addr) (cap2 : Nat), cs = [.slice ad1 x.Begin.length cap2, .int .i64 x.Late] ∧ ArrM μ 1 fI ad1 cap2 x.Begin
theorem Rp65.mono : Rel.Mono Rp65 := by
  intro μ ν cs x hle h
  obtain ⟨ad1, cap2, rfl, f0⟩ := h
  exact ⟨ad1, cap2, rfl, f0.mono hle⟩
theorem Rp65.one : Rel.One 2 Rp65 := by
  intro μ cs x h
  obtain ⟨ad1, cap2, rfl, f0⟩ := h
  all_goals rfl

def Rp59 : Rel ref06_Cut := fun μ cs x => ∃ (ad1 : Option Addr) (cap2 : Nat), cs = [.slice ad1 x.Begin.length cap2, .int .i64 x.Late] ∧ ArrM μ 1 fI ad1 cap2 x.Begin
theorem Rp59.mono : Rel.Mono Rp59 := by
  intro μ ν cs x hle h
  obtain ⟨ad1, cap2, rfl, f0⟩ := h
  exact ⟨ad1, cap2, rfl, f0.mono hle⟩
theorem Rp59.one : Rel.One 2 Rp59 := by
  intro μ cs x h
  obtain ⟨ad1, cap2, rfl, f0⟩ := h
  all_goals rfl

def plan_in (p0 : Int) (p1 : Int) (p2 : Int) : Bool :=
  bif (decide (p0 ≥ p1)) then (decide (p0 ≤ p2)) else false

def pulse_within (p0 : Int) (p1 : Int) (p2 : Int) : Bool :=
  bif (decide (p1 ≤ p0)) then (decide (p0 ≤ p2)) else false

def pulse_CheckTrain_K2 (p0 : pulse_Train) (x3 : Int) (c5 : Bool) : Option Int :=
  bif (bif (bif (bif (!c5) then true else (!(pulse_within p0.Lambda 10000 1000000))) then true else (!(pulse_within p0.First 200 5000))) then true else (!(pulse_within p0.Count x3 64))) then (some 3) else (some 0)

def pulse_CheckTrain_K1 (p0 : pulse_Train) (x3 : Int) (c4 : Bool) : Option Int :=
  bif (p0.Kind != 1) then (pulse_CheckTrain_K2 p0 x3 (bif (bif c4 then (pulse_within p0.Second 200 5000) else false) then (decide (p0.First < p0.Second)) else false)) else (pulse_CheckTrain_K2 p0 x3 c4)

def pulse_CheckTrain (F : Nat) (p0 : pulse_Train) : Option Int :=
  bif (p0.Kind == 1) then (pulse_CheckTrain_K1 p0 2 (p0.Second == 0)) else (bif (p0.Kind == 2) then ((remC p0.Count 2).bind fun x8 =>
  pulse_CheckTrain_K1 p0 4 (x8 == 0)) else (bif (p0.Kind == 3) then (pulse_CheckTrain_K1 p0 3 true) else (some 2)))

def plan_Check_K1 : Option Int :=
  some 0

def plan_Check_B2 (F : Nat) (p1 : (List plan_Job)) (k2 : (Int → Option Int)) (x30 : Int) : Option Int :=
  bif (decide (x30 < ((p1.length : Nat) : Int))) then ((getI p1 x30).bind fun u32 =>
  bif (bif (bif (!(plan_in u32.Tilt 0 256)) then true else (!(plan_in u32.Width 1 1000))) then true else (!(plan_in u32.Every 1 100000000))) then (some 3) else ((pulse_CheckTrain F u32.Train).bind fun y34 =>
  bif (y34 != 0) then (some y34) else ((ck (x30 + 1)).bind fun x35 =>
  k2 x35))) else (plan_Check_K1)

def plan_Check_L2 (F : Nat) (p1 : (List plan_Job)) : Nat → Int → Option Int
  | 0, _ => none
  | n + 1, x30 => plan_Check_B2 F p1 (plan_Check_L2 F p1 n) x30

def plan_Check (F : Nat) (p0 : plan_Radar) (p1 : (List plan_Job)) : Option Int :=
  bif (bif (bif (bif (!(plan_in p0.Rays 1 360)) then true else (!(plan_in p0.Turn 0 600000))) then true else (!(plan_in p0.Move 0 10000))) then true else (!(plan_in p0.Duty 1 1000))) then (some 3) else (bif (!(plan_in ((p1.length : Nat) : Int) 1 6)) then (some 9) else (plan_Check_L2 F p1 F 0))

def plan_Radar_time_1 (F : Nat) (c0_ : pulse_Train) : Option Int :=
  (ck (c0_.Count * c0_.First)).bind fun x1 =>
  some x1

def plan_Radar_time_2 (F : Nat) (c0_ : pulse_Train) : Option Int :=
  (quoC c0_.Count 2).bind fun x1 =>
  (ck (c0_.First + c0_.Second)).bind fun x2 =>
  (ck (x1 * x2)).bind fun x3 =>
  some x3

def plan_Radar_time_3 (F : Nat) (c0_ : pulse_Train) : Option Int :=
  (ck (c0_.Count + 1)).bind fun x1 =>
  (quoC x1 2).bind fun x2 =>
  (ck (x2 * c0_.First)).bind fun x3 =>
  (quoC c0_.Count 2).bind fun x4 =>
  (ck (x4 * c0_.Second)).bind fun x5 =>
  (ck (x3 + x5)).bind fun x6 =>
  some x6

def plan_up (F : Nat) (p0 : Int) (p1 : Int) : Option Int :=
  (ck (p0 + p1)).bind fun x1 =>
  (ck (x1 - 1)).bind fun x2 =>
  (quoC x2 p1).bind fun x3 =>
  some x3

def plan_Radar_time (F : Nat) (p0 : plan_Radar) (p1 : plan_Job) : Option Int :=
  bif (p1.Train.Kind == 0) then (none) else (bif (p1.Train.Kind == 1) then ((ck (100 * p1.Train.Count)).bind fun x7 =>
  (ck (x7 * p1.Width)).bind fun x8 =>
  (plan_Radar_time_1 F p1.Train).bind fun y10 =>
  (plan_up F x8 p0.Duty).bind fun y12 =>
  (ck (p0.Rays * (if y12 > y10 then y12 else y10))).bind fun x18 =>
  (plan_up F x18 1000).bind fun y19 =>
  some (if y19 > p0.Turn then y19 else p0.Turn)) else (bif (p1.Train.Kind == 2) then ((ck (100 * p1.Train.Count)).bind fun x21 =>
  (ck (x21 * p1.Width)).bind fun x22 =>
  (plan_Radar_time_2 F p1.Train).bind fun y24 =>
  (plan_up F x22 p0.Duty).bind fun y26 =>
  (ck (p0.Rays * (if y26 > y24 then y26 else y24))).bind fun x32 =>
  (plan_up F x32 1000).bind fun y33 =>
  some (if y33 > p0.Turn then y33 else p0.Turn)) else (bif (p1.Train.Kind == 3) then ((ck (100 * p1.Train.Count)).bind fun x35 =>
  (ck (x35 * p1.Width)).bind fun x36 =>
  (plan_Radar_time_3 F p1.Train).bind fun y38 =>
  (plan_up F x36 p0.Duty).bind fun y40 =>
  (ck (p0.Rays * (if y40 > y38 then y40 else y38))).bind fun x46 =>
  (plan_up F x46 1000).bind fun y47 =>
  some (if y47 > p0.Turn then y47 else p0.Turn)) else (none))))

def plan_Time (F : Nat) (p0 : plan_Radar) (p1 : plan_Job) : Option (Int × Int) :=
  (plan_Check F p0 ([p1])).bind fun y4 =>
  bif (y4 != 0) then (some (0, y4)) else ((plan_Radar_time F p0 p1).bind fun y5 =>
  some (y5, 0))

def plan_Radar_move (F : Nat) (p0 : plan_Radar) (p1 : plan_Job) (p2 : plan_Job) : Option Int :=
  (ck (p1.Tilt - p2.Tilt)).bind fun x4 =>
  (ck (p2.Tilt - p1.Tilt)).bind fun x5 =>
  (ck (p0.Move * (if x5 > x4 then x5 else x4))).bind fun x6 =>
  some x6

def plan_newDesk_K1 (p1 : (List plan_Job)) (l656 : (List Int)) (l659 : (List (List Int))) : Option (Option plan_desk) :=
  some (some (plan_desk.mk p1 l656 l659))

def plan_newDesk_K3 (x1112 : Int) (k2 : ((List Int) → (List (List Int)) → Int → Option (Option plan_desk))) (l1216 : (List Int)) (l1219 : (List (List Int))) : Option (Option plan_desk) :=
  (ck (x1112 + 1)).bind fun x1223 =>
  k2 l1216 l1219 x1223

def plan_newDesk_K4 (l1109 : (List (List Int))) (x1112 : Int) (k2 : ((List Int) → (List (List Int)) → Int → Option (Option plan_desk))) (l1230 : (List Int)) (l1277 : (List Int)) : Option (Option plan_desk) :=
  (apd 24 l1109 ([l1277])).bind fun l1284 =>
  plan_newDesk_K3 x1112 k2 l1230 l1284

def plan_newDesk_B5 (F : Nat) (p0 : plan_Radar) (p1 : (List plan_Job)) (l1109 : (List (List Int))) (x1112 : Int) (k2 : ((List Int) → (List (List Int)) → Int → Option (Option plan_desk))) (u1225 : plan_Job) (l1230 : (List Int)) (k5 : (Int → (List Int) → Option (Option plan_desk))) (x1310 : Int) (l1313 : (List Int)) : Option (Option plan_desk) :=
  bif (decide (x1310 < ((p1.length : Nat) : Int))) then ((getI p1 x1310).bind fun u1315 =>
  (plan_Radar_move F p0 u1225 u1315).bind fun y1317 =>
  (apd 8 l1313 ([y1317])).bind fun l1319 =>
  (ck (x1310 + 1)).bind fun x1322 =>
  k5 x1322 l1319) else (plan_newDesk_K4 l1109 x1112 k2 l1230 l1313)

def plan_newDesk_L5 (F : Nat) (p0 : plan_Radar) (p1 : (List plan_Job)) (l1109 : (List (List Int))) (x1112 : Int) (k2 : ((List Int) → (List (List Int)) → Int → Option (Option plan_desk))) (u1225 : plan_Job) (l1230 : (List Int)) : Nat → Int → (List Int) → Option (Option plan_desk)
  | 0, _, _ => none
  | n + 1, x1310, l1313 => plan_newDesk_B5 F p0 p1 l1109 x1112 k2 u1225 l1230 (plan_newDesk_L5 F p0 p1 l1109 x1112 k2 u1225 l1230 n) x1310 l1313

def plan_newDesk_B2 (F : Nat) (p0 : plan_Radar) (p1 : (List plan_Job)) (k2 : ((List Int) → (List (List Int)) → Int → Option (Option plan_desk))) (l1106 : (List Int)) (l1109 : (List (List Int))) (x1112 : Int) : Option (Option plan_desk) :=
  bif (decide (x1112 < ((p1.length : Nat) : Int))) then ((getI p1 x1112).bind fun u1225 =>
  (plan_Radar_time F p0 u1225).bind fun y1228 =>
  (apd 8 l1106 ([y1228])).bind fun l1230 =>
  plan_newDesk_L5 F p0 p1 l1109 x1112 k2 u1225 l1230 F 0 ([])) else (plan_newDesk_K1 p1 l1106 l1109)

def plan_newDesk_L2 (F : Nat) (p0 : plan_Radar) (p1 : (List plan_Job)) : Nat → (List Int) → (List (List Int)) → Int → Option (Option plan_desk)
  | 0, _, _, _ => none
  | n + 1, l1106, l1109, x1112 => plan_newDesk_B2 F p0 p1 (plan_newDesk_L2 F p0 p1 n) l1106 l1109 x1112

def plan_newDesk (F : Nat) (p0 : plan_Radar) (p1 : (List plan_Job)) : Option (Option plan_desk) :=
  plan_newDesk_L2 F p0 p1 F ([]) ([]) 0

def slices_Clip_int_int (F : Nat) (p0 : (List Int)) : Option (List Int) :=
  (cutI p0 (0 : Int) ((p0.length : Nat) : Int)).bind fun l4 =>
  some l4

def plan_line_add_K1 (F : Nat) (p0 : plan_line) (p1 : Int) (x38 : Int) : Option plan_line :=
  (p0.desk).bind fun d39 =>
  (getI d39.takes p1).bind fun u55 =>
  (ck (x38 + u55)).bind fun x56 =>
  (slices_Clip_int_int F p0.jobs).bind fun y58 =>
  (apd 8 y58 ([p1])).bind fun l61 =>
  (slices_Clip_int_int F p0.at_).bind fun y65 =>
  (apd 8 y65 ([x38])).bind fun l68 =>
  some (plan_line.mk (some d39) l61 l68 x56)

def plan_line_add (F : Nat) (p0 : plan_line) (p1 : Int) : Option plan_line :=
  bif (decide (((p0.jobs.length : Nat) : Int) > 0)) then ((p0.desk).bind fun d246 =>
  (ck (((p0.jobs.length : Nat) : Int) - 1)).bind fun x262 =>
  (getI p0.jobs x262).bind fun u263 =>
  (getI d246.moves u263).bind fun u264 =>
  (getI u264 p1).bind fun u271 =>
  (ck (p0.done + u271)).bind fun x272 =>
  plan_line_add_K1 F p0 p1 x272) else (plan_line_add_K1 F p0 p1 0)

def pplan_desk_of_K1 (q83 : (Option plan_desk)) (l87 : (List Int)) (l91 : (List Int)) (x93 : Int) : Option plan_line :=
  some (plan_line.mk q83 l87 l91 x93)

def pplan_desk_of_B2 (F : Nat) (p1 : (List Int)) (k2 : ((Option plan_desk) → (List Int) → (List Int) → Int → Int → Option plan_line)) (q141 : (Option plan_desk)) (l145 : (List Int)) (l149 : (List Int)) (x151 : Int) (x152 : Int) : Option plan_line :=
  bif (decide (x152 < ((p1.length : Nat) : Int))) then ((getI p1 x152).bind fun u155 =>
  (plan_line_add F (plan_line.mk q141 l145 l149 x151) u155).bind fun y157 =>
  (ck (x152 + 1)).bind fun x168 =>
  k2 y157.desk y157.jobs y157.at_ y157.done x168) else (pplan_desk_of_K1 q141 l145 l149 x151)

def pplan_desk_of_L2 (F : Nat) (p1 : (List Int)) : Nat → (Option plan_desk) → (List Int) → (List Int) → Int → Int → Option plan_line
  | 0, _, _, _, _, _ => none
  | n + 1, q141, l145, l149, x151, x152 => pplan_desk_of_B2 F p1 (pplan_desk_of_L2 F p1 n) q141 l145 l149 x151 x152

def pplan_desk_of (F : Nat) (p0 : (Option plan_desk)) (p1 : (List Int)) : Option plan_line :=
  pplan_desk_of_L2 F p1 F p0 ([]) ([]) 0 0

def plan_line_next (F : Nat) (p0 : plan_line) (p1 : Int) : Option Int :=
  (p0.desk).bind fun d10 =>
  (ck (((p0.jobs.length : Nat) : Int) - 1)).bind fun x26 =>
  (getI p0.jobs x26).bind fun u27 =>
  (getI d10.moves u27).bind fun u28 =>
  (getI u28 p1).bind fun u35 =>
  (ck (p0.done + u35)).bind fun x36 =>
  some x36

def plan_line_all (F : Nat) (p0 : plan_line) : Option Int :=
  (getI p0.jobs 0).bind fun u10 =>
  (plan_line_next F p0 u10).bind fun y11 =>
  some y11

def plan_line_gaps_K2 (l113 : (List Int)) : Option (List Int) :=
  some l113

def plan_line_gaps_B3 (p0 : plan_line) (k3 : ((List Int) → (List Int) → Int → Option (List Int))) (l146 : (List Int)) (l149 : (List Int)) (x150 : Int) : Option (List Int) :=
  bif (decide (x150 < ((p0.jobs.length : Nat) : Int))) then ((getI p0.jobs x150).bind fun u152 =>
  (getI l146 u152).bind fun u153 =>
  (getI p0.at_ x150).bind fun u154 =>
  (getI l149 u152).bind fun u155 =>
  (ck (u154 - u155)).bind fun x156 =>
  (getI l146 u152).bind fun u157 =>
  (setI l146 u152 (if x156 > u153 then x156 else u153)).bind fun l158 =>
  (getI p0.at_ x150).bind fun u159 =>
  (getI l149 u152).bind fun u160 =>
  (setI l149 u152 u159).bind fun l161 =>
  (ck (x150 + 1)).bind fun x162 =>
  k3 l158 l161 x162) else (plan_line_gaps_K2 l146)

def plan_line_gaps_L3 (p0 : plan_line) : Nat → (List Int) → (List Int) → Int → Option (List Int)
  | 0, _, _, _ => none
  | n + 1, l146, l149, x150 => plan_line_gaps_B3 p0 (plan_line_gaps_L3 p0 n) l146 l149 x150

def plan_line_gaps_K1 (F : Nat) (p0 : plan_line) (l27 : (List Int)) (l62 : (List Int)) : Option (List Int) :=
  plan_line_gaps_L3 p0 F l27 l62 0

def plan_line_gaps_B4 (F : Nat) (p0 : plan_line) (d10 : plan_desk) (l27 : (List Int)) (k4 : (Int → (List Int) → Option (List Int))) (x182 : Int) (l185 : (List Int)) : Option (List Int) :=
  bif (decide (x182 < ((p0.jobs.length : Nat) : Int))) then ((getI p0.jobs x182).bind fun u187 =>
  (getI p0.at_ x182).bind fun u188 =>
  (plan_line_all F (plan_line.mk (some d10) p0.jobs p0.at_ p0.done)).bind fun y189 =>
  (ck (u188 - y189)).bind fun x190 =>
  (getI l185 u187).bind fun u191 =>
  (setI l185 u187 x190).bind fun l192 =>
  (ck (x182 + 1)).bind fun x193 =>
  k4 x193 l192) else (plan_line_gaps_K1 F p0 l27 l185)

def plan_line_gaps_L4 (F : Nat) (p0 : plan_line) (d10 : plan_desk) (l27 : (List Int)) : Nat → Int → (List Int) → Option (List Int)
  | 0, _, _ => none
  | n + 1, x182, l185 => plan_line_gaps_B4 F p0 d10 l27 (plan_line_gaps_L4 F p0 d10 l27 n) x182 l185

def plan_line_gaps (F : Nat) (p0 : plan_line) : Option (List Int) :=
  (p0.desk).bind fun d10 =>
  (mkI 8 ((d10.takes.length : Nat) : Int) 0).bind fun l27 =>
  (mkI 8 ((d10.takes.length : Nat) : Int) 0).bind fun l29 =>
  plan_line_gaps_L4 F p0 d10 l27 F 0 l29

def plan_judged_K2 (y29 : plan_line) (l79 : (List Int)) : Option (plan_line × (List Int) × Int) :=
  some (y29, l79, 0)

def plan_judged_B3 (p1 : (List plan_Job)) (y29 : plan_line) (k3 : ((List Int) → Int → Int → Option (plan_line × (List Int) × Int))) (l106 : (List Int)) (x107 : Int) (x108 : Int) : Option (plan_line × (List Int) × Int) :=
  bif (decide (x108 < x107)) then ((getI l106 x108).bind fun u110 =>
  bif (u110 == 0) then (some ((plan_line.mk (none : (Option plan_desk)) ([] : (List Int)) ([] : (List Int)) 0), ([] : (List Int)), 23)) else ((getI p1 x108).bind fun u111 =>
  (getI l106 x108).bind fun u112 =>
  (ck (u111.Every - u112)).bind fun x113 =>
  (getI l106 x108).bind fun u114 =>
  (setI l106 x108 x113).bind fun l115 =>
  (ck (x108 + 1)).bind fun x116 =>
  k3 l115 x107 x116)) else (plan_judged_K2 y29 l106)

def plan_judged_L3 (p1 : (List plan_Job)) (y29 : plan_line) : Nat → (List Int) → Int → Int → Option (plan_line × (List Int) × Int)
  | 0, _, _, _ => none
  | n + 1, l106, x107, x108 => plan_judged_B3 p1 y29 (plan_judged_L3 p1 y29 n) l106 x107 x108

def plan_judged_K1 (F : Nat) (p0 : plan_Radar) (p1 : (List plan_Job)) (p2 : (List Int)) : Option (plan_line × (List Int) × Int) :=
  (plan_newDesk F p0 p1).bind fun y23 =>
  (pplan_desk_of F y23 p2).bind fun y29 =>
  (plan_line_gaps F y29).bind fun y42 =>
  plan_judged_L3 p1 y29 F y42 ((y42.length : Nat) : Int) 0

def plan_judged_B4 (F : Nat) (p0 : plan_Radar) (p1 : (List plan_Job)) (p2 : (List Int)) (k4 : (Int → Option (plan_line × (List Int) × Int))) (x125 : Int) : Option (plan_line × (List Int) × Int) :=
  bif (decide (x125 < ((p2.length : Nat) : Int))) then ((getI p2 x125).bind fun u127 =>
  (ck (((p1.length : Nat) : Int) - 1)).bind fun x128 =>
  bif (!(plan_in u127 0 x128)) then (some ((plan_line.mk (none : (Option plan_desk)) ([] : (List Int)) ([] : (List Int)) 0), ([] : (List Int)), 4)) else ((ck (x125 + 1)).bind fun x129 =>
  k4 x129)) else (plan_judged_K1 F p0 p1 p2)

def plan_judged_L4 (F : Nat) (p0 : plan_Radar) (p1 : (List plan_Job)) (p2 : (List Int)) : Nat → Int → Option (plan_line × (List Int) × Int)
  | 0, _ => none
  | n + 1, x125 => plan_judged_B4 F p0 p1 p2 (plan_judged_L4 F p0 p1 p2 n) x125

def plan_judged (F : Nat) (p0 : plan_Radar) (p1 : (List plan_Job)) (p2 : (List Int)) : Option (plan_line × (List Int) × Int) :=
  (plan_Check F p0 p1).bind fun y9 =>
  bif (y9 != 0) then (some ((plan_line.mk (none : (Option plan_desk)) ([] : (List Int)) ([] : (List Int)) 0), ([] : (List Int)), y9)) else (bif (!(plan_in ((p2.length : Nat) : Int) 1 12)) then (some ((plan_line.mk (none : (Option plan_desk)) ([] : (List Int)) ([] : (List Int)) 0), ([] : (List Int)), 3)) else (plan_judged_L4 F p0 p1 p2 F 0))

def plan_Judge (F : Nat) (p0 : plan_Radar) (p1 : (List plan_Job)) (p2 : (List Int)) : Option ((List Int) × Int) :=
  (plan_judged F p0 p1 p2).bind fun y9 =>
  some (y9.2.1, y9.2.2)

def law06_numbers_K1 : Option Bool :=
  some true

def law06_numbers_B2 (p0 : (List Int)) (p1 : (List Int)) (k2 : (Int → Option Bool)) (x27 : Int) : Option Bool :=
  bif (decide (x27 < ((p0.length : Nat) : Int))) then ((getI p0 x27).bind fun u29 =>
  (getI p1 x27).bind fun u30 =>
  bif (u29 != u30) then (some false) else ((ck (x27 + 1)).bind fun x31 =>
  k2 x31)) else (law06_numbers_K1)

def law06_numbers_L2 (p0 : (List Int)) (p1 : (List Int)) : Nat → Int → Option Bool
  | 0, _ => none
  | n + 1, x27 => law06_numbers_B2 p0 p1 (law06_numbers_L2 p0 p1 n) x27

def law06_numbers (F : Nat) (p0 : (List Int)) (p1 : (List Int)) : Option Bool :=
  bif (((p0.length : Nat) : Int) != ((p1.length : Nat) : Int)) then (some false) else (law06_numbers_L2 p0 p1 F 0)

def cmp_isNaN_int (p0 : Int) : Bool :=
  p0 != p0

def cmp_Less_int (p0 : Int) (p1 : Int) : Bool :=
  bif (bif (cmp_isNaN_int p0) then (!(cmp_isNaN_int p1)) else false) then true else (decide (p0 < p1))

def slices_isNaN_int (p0 : Int) : Bool :=
  p0 != p0

def slices_BinarySearch_int_int_K1 (p0 : (List Int)) (p1 : Int) (x21 : Int) : Option (Int × Bool) :=
  (gd (((decide (x21 < ((p0.length : Nat) : Int))) == true && true)) (getI p0 x21) default).bind fun u22 =>
  (gd (((u22 == p1) == false && ((decide (x21 < ((p0.length : Nat) : Int))) == true && true))) (getI p0 x21) default).bind fun u23 =>
  some (x21, bif (decide (x21 < ((p0.length : Nat) : Int))) then (bif (u22 == p1) then true else (bif (slices_isNaN_int u23) then (slices_isNaN_int p1) else false)) else false)

def slices_BinarySearch_int_int_B2 (p0 : (List Int)) (p1 : Int) (k2 : (Int → Int → Option (Int × Bool))) (x35 : Int) (x36 : Int) : Option (Int × Bool) :=
  bif (decide (x35 < x36)) then ((ck (x35 + x36)).bind fun x38 =>
  (ck (Int.fdiv (IntKind.u64.wrap x38) 2)).bind fun x39 =>
  (getI p0 x39).bind fun u40 =>
  bif (cmp_Less_int u40 p1) then ((ck (x39 + 1)).bind fun x41 =>
  k2 x41 x36) else (k2 x35 x39)) else (slices_BinarySearch_int_int_K1 p0 p1 x35)

def slices_BinarySearch_int_int_L2 (p0 : (List Int)) (p1 : Int) : Nat → Int → Int → Option (Int × Bool)
  | 0, _, _ => none
  | n + 1, x35, x36 => slices_BinarySearch_int_int_B2 p0 p1 (slices_BinarySearch_int_int_L2 p0 p1 n) x35 x36

def slices_BinarySearch_int_int (F : Nat) (p0 : (List Int)) (p1 : Int) : Option (Int × Bool) :=
  slices_BinarySearch_int_int_L2 p0 p1 F 0 ((p0.length : Nat) : Int)

def plan_Where_K1 (p0 : plan_Radar) (y9 : (plan_line × (List Int) × Int)) (x25 : Int) (x28 : Int) : Option (Int × Int × Int) :=
  (getI y9.1.at_ x28).bind fun u29 =>
  (ck (x25 - u29)).bind fun x30 =>
  (y9.1.desk).bind fun d31 =>
  (getI y9.1.jobs x28).bind fun u47 =>
  (getI d31.takes u47).bind fun u48 =>
  bif (decide (x30 ≥ u48)) then (some (x28, -1, 0)) else ((ck (x30 * p0.Rays)).bind fun x49 =>
  (quoC x49 u48).bind fun x50 =>
  some (x28, x50, 0))

def plan_Where (F : Nat) (p0 : plan_Radar) (p1 : (List plan_Job)) (p2 : (List Int)) (p3 : Int) : Option (Int × Int × Int) :=
  (plan_judged F p0 p1 p2).bind fun y9 =>
  bif (y9.2.2 != 0) then (some (0, 0, y9.2.2)) else (bif (!(plan_in p3 0 4294967296)) then (some (0, 0, 3)) else ((plan_line_all F (plan_line.mk y9.1.desk y9.1.jobs y9.1.at_ y9.1.done)).bind fun y24 =>
  (remC p3 y24).bind fun x25 =>
  (slices_BinarySearch_int_int F y9.1.at_ x25).bind fun y26 =>
  bif (!y26.2) then ((ck (y26.1 - 1)).bind fun x52 =>
  plan_Where_K1 p0 y9 x25 x52) else (plan_Where_K1 p0 y9 x25 y26.1)))

def slices_Backward_int_int_1_B1 {σ : Type} (body : (σ → (Int × Int) → Option (σ × Bool))) (c0_ : (List Int)) (k1 : (Int → σ → Option (σ × Bool))) (x25 : Int) (s26 : σ) : Option (σ × Bool) :=
  bif (decide (x25 ≥ 0)) then ((getI c0_ x25).bind fun u30 =>
  (body s26 (x25, u30)).bind fun q31 =>
  bif q31.2 then ((ck (x25 - 1)).bind fun x36 =>
  k1 x36 q31.1) else (some (q31.1, false))) else (some (s26, true))

def slices_Backward_int_int_1_L1 {σ : Type} (body : (σ → (Int × Int) → Option (σ × Bool))) (c0_ : (List Int)) : Nat → Int → σ → Option (σ × Bool)
  | 0, _, _ => none
  | n + 1, x25, s26 => slices_Backward_int_int_1_B1 body c0_ (slices_Backward_int_int_1_L1 body c0_ n) x25 s26

def slices_Backward_int_int_1 {σ : Type} (F : Nat) (c0_ : (List Int)) (body : σ → (Int × Int) → Option (σ × Bool)) (s_ : σ) : Option (σ × Bool) :=
  (ck (((c0_.length : Nat) : Int) - 1)).bind fun x4 =>
  slices_Backward_int_int_1_L1 body c0_ F x4 s_

def slices_Backward_int_int (p0 : (List Int)) : Unit :=
  ()

def plan_line_late_Y1 (p0 : plan_line) (p1 : Int) (y12 : Int) (s_r : (Bool × Nat)) (x_ : (Int × Int)) : Option ((Bool × Nat) × Bool) :=
  bif (x_.2 == p1) then ((getI p0.at_ x_.1).bind fun u66 =>
  (ck (y12 - u66)).bind fun x67 =>
  (p0.desk).bind fun d68 =>
  (getI d68.jobs p1).bind fun u84 =>
  some ((decide (x67 > u84.Every), 1), false)) else (some ((s_r.1, 0), true))

def plan_line_late_c1 (tg_ : Nat) : Code := .ret

def plan_line_late (F : Nat) (p0 : plan_line) (p1 : Int) : Option Bool :=
  (plan_line_next F p0 p1).bind fun y12 =>
  (slices_Backward_int_int_1 F p0.jobs (plan_line_late_Y1 p0 p1 y12) (false, 0)).bind fun r85 =>
  bif r85.2 then ((p0.desk).bind fun d89 =>
  (getI d89.takes p1).bind fun u105 =>
  (ck (y12 + u105)).bind fun x106 =>
  (getI d89.moves p1).bind fun u107 =>
  (getI p0.jobs 0).bind fun u114 =>
  (getI u107 u114).bind fun u115 =>
  (ck (x106 + u115)).bind fun x116 =>
  (getI d89.jobs p1).bind fun u117 =>
  some (decide (x116 > u117.Every))) else (some r85.1.1)

def plan_line_first_K1 : Option (Int × Bool) :=
  some (0, false)

def plan_line_first_B2 (F : Nat) (p0 : plan_line) (d36 : plan_desk) (k2 : (Int → Option (Int × Bool))) (x57 : Int) : Option (Int × Bool) :=
  bif (decide (x57 < ((d36.takes.length : Nat) : Int))) then ((plan_line_late F (plan_line.mk (some d36) p0.jobs p0.at_ p0.done) x57).bind fun y59 =>
  bif y59 then (some (x57, true)) else ((ck (x57 + 1)).bind fun x60 =>
  k2 x60)) else (plan_line_first_K1)

def plan_line_first_L2 (F : Nat) (p0 : plan_line) (d36 : plan_desk) : Nat → Int → Option (Int × Bool)
  | 0, _ => none
  | n + 1, x57 => plan_line_first_B2 F p0 d36 (plan_line_first_L2 F p0 d36 n) x57

def plan_line_first (F : Nat) (p0 : plan_line) : Option (Int × Bool) :=
  (p0.desk).bind fun d36 =>
  plan_line_first_L2 F p0 d36 F 0

def pplan_desk_begun_1_1_K1 {σ : Type} (s214 : σ) : Option (σ × Bool × Bool) :=
  some (s214, true, true)

def pplan_desk_begun_1_1_K3 {σ : Type} (x356 : Int) (k2 : (Int → σ → Option (σ × Bool × Bool))) (s388 : σ) : Option (σ × Bool × Bool) :=
  (ck (x356 + 1)).bind fun x391 =>
  k2 x391 s388

def pplan_desk_begun_1_1_B2 {σ : Type} (F : Nat) (body : (σ → plan_line → Option (σ × Bool))) (self_ : (plan_line → (Option plan_desk) → Int → (σ → plan_line → Option (σ × Bool)) → σ → Option (σ × Bool × Bool))) (p0 : plan_line) (c1_ : Int) (d218 : plan_desk) (k2 : (Int → σ → Option (σ × Bool × Bool))) (x356 : Int) (s357 : σ) : Option (σ × Bool × Bool) :=
  bif (decide (x356 < ((d218.takes.length : Nat) : Int))) then ((plan_line_add F p0 x356).bind fun y394 =>
  bif (((y394.jobs.length : Nat) : Int) == c1_) then ((body s357 y394).bind fun q406 =>
  bif q406.2 then (pplan_desk_begun_1_1_K3 x356 k2 q406.1) else (some (q406.1, false, false))) else ((plan_line_first F y394).bind fun y411 =>
  bif (!y411.2) then ((self_ y394 (some d218) c1_ body s357).bind fun y413 =>
  bif y413.2.1 then (bif (!y413.2.2) then (some (y413.1, true, false)) else (pplan_desk_begun_1_1_K3 x356 k2 y413.1)) else (bif (!y413.2.2) then (some (y413.1, false, false)) else (none))) else (pplan_desk_begun_1_1_K3 x356 k2 s357))) else (pplan_desk_begun_1_1_K1 s357)

def pplan_desk_begun_1_1_L2 {σ : Type} (F : Nat) (body : (σ → plan_line → Option (σ × Bool))) (self_ : (plan_line → (Option plan_desk) → Int → (σ → plan_line → Option (σ × Bool)) → σ → Option (σ × Bool × Bool))) (p0 : plan_line) (c1_ : Int) (d218 : plan_desk) : Nat → Int → σ → Option (σ × Bool × Bool)
  | 0, _, _ => none
  | n + 1, x356, s357 => pplan_desk_begun_1_1_B2 F body self_ p0 c1_ d218 (pplan_desk_begun_1_1_L2 F body self_ p0 c1_ d218 n) x356 s357

def pplan_desk_begun_1_1_R {σ : Type} (F : Nat) (self_ : plan_line → (Option plan_desk) → Int → (σ → plan_line → Option (σ × Bool)) → σ → Option (σ × Bool × Bool)) (p0 : plan_line) (c0_ : (Option plan_desk)) (c1_ : Int) (body : σ → plan_line → Option (σ × Bool)) (s_ : σ) : Option (σ × Bool × Bool) :=
  (c0_).bind fun d218 =>
  pplan_desk_begun_1_1_L2 F body self_ p0 c1_ d218 F 0 s_

def pplan_desk_begun_1_1 {σ : Type} : Nat → plan_line → (Option plan_desk) → Int → (σ → plan_line → Option (σ × Bool)) → σ → Option (σ × Bool × Bool)
  | 0, _, _, _, _, _ => none
  | F + 1, p0, c0_, c1_, body, s_ => pplan_desk_begun_1_1_R F (pplan_desk_begun_1_1 F) p0 c0_ c1_ body s_

def pplan_desk_begun_1 {σ : Type} (F : Nat) (c0_ : (Option plan_desk)) (c1_ : Int) (body : σ → plan_line → Option (σ × Bool)) (s_ : σ) : Option (σ × Bool) :=
  (pplan_desk_begun_1_1 F (plan_line.mk c0_ ([] : (List Int)) ([] : (List Int)) 0) c0_ c1_ body s_).bind fun y13 =>
  bif y13.2.1 then (some (y13.1, true)) else (some (y13.1, false))

def pplan_desk_begun (p0 : (Option plan_desk)) (p1 : Int) : Unit :=
  ()

def plan_line_kept_K1 : Option Bool :=
  some true

def plan_line_kept_B2 (p0 : plan_line) (y79 : (List Int)) (k2 : (Int → Option Bool)) (x123 : Int) : Option Bool :=
  bif (decide (x123 < ((y79.length : Nat) : Int))) then ((getI y79 x123).bind fun u125 =>
  bif (u125 == 0) then (some false) else ((p0.desk).bind fun d127 =>
  (getI d127.jobs x123).bind fun u143 =>
  bif (decide (u125 > u143.Every)) then (some false) else ((ck (x123 + 1)).bind fun x144 =>
  k2 x144))) else (plan_line_kept_K1)

def plan_line_kept_L2 (p0 : plan_line) (y79 : (List Int)) : Nat → Int → Option Bool
  | 0, _ => none
  | n + 1, x123 => plan_line_kept_B2 p0 y79 (plan_line_kept_L2 p0 y79 n) x123

def plan_line_kept (F : Nat) (p0 : plan_line) : Option Bool :=
  (plan_line_gaps F p0).bind fun y79 =>
  plan_line_kept_L2 p0 y79 F 0

def plan_Best_K1 (l223 : (List Int)) (x225 : Int) : Option ((List Int) × Int) :=
  some (([] : (List Int)), 4)

def plan_Best_Y3 (F : Nat) (s_r : ((List Int) × Int × Nat)) (x_ : plan_line) : Option (((List Int) × Int × Nat) × Bool) :=
  (plan_line_kept F x_).bind fun y429 =>
  bif y429 then (some ((x_.jobs, 0, 1), false)) else (some ((s_r.1, s_r.2.1, 0), true))

def plan_Best_c3 (tg_ : Nat) : Code := .ret

def plan_Best_B2 (F : Nat) (p2 : Int) (y9 : (Option plan_desk)) (k2 : ((List Int) → Int → Int → Option ((List Int) × Int))) (l366 : (List Int)) (x368 : Int) (x369 : Int) : Option ((List Int) × Int) :=
  bif (decide (x369 ≤ p2)) then ((pplan_desk_begun_1 F y9 x369 (plan_Best_Y3 F) (l366, x368, 0)).bind fun r430 =>
  bif r430.2 then ((ck (x369 + 1)).bind fun x434 =>
  k2 r430.1.1 r430.1.2.1 x434) else (some (r430.1.1, r430.1.2.1))) else (plan_Best_K1 l366 x368)

def plan_Best_L2 (F : Nat) (p2 : Int) (y9 : (Option plan_desk)) : Nat → (List Int) → Int → Int → Option ((List Int) × Int)
  | 0, _, _, _ => none
  | n + 1, l366, x368, x369 => plan_Best_B2 F p2 y9 (plan_Best_L2 F p2 y9 n) l366 x368 x369

def plan_Best (F : Nat) (p0 : plan_Radar) (p1 : (List plan_Job)) (p2 : Int) : Option ((List Int) × Int) :=
  (plan_Check F p0 p1).bind fun y7 =>
  bif (y7 != 0) then (some (([] : (List Int)), y7)) else (bif (!(plan_in p2 1 8)) then (some (([] : (List Int)), 3)) else ((plan_newDesk F p0 p1).bind fun y9 =>
  plan_Best_L2 F p2 y9 F ([]) 0 1))

def pplan_desk_cuts_1_1_K1 {σ : Type} (s238 : σ) : Option (σ × Bool × Bool) :=
  some (s238, true, true)

def pplan_desk_cuts_1_1_K3 {σ : Type} (x396 : Int) (k2 : (Int → σ → Option (σ × Bool × Bool))) (s432 : σ) : Option (σ × Bool × Bool) :=
  (ck (x396 + 1)).bind fun x435 =>
  k2 x435 s432

def pplan_desk_cuts_1_1_B2 {σ : Type} (F : Nat) (body : (σ → (plan_line × Int) → Option (σ × Bool))) (self_ : (plan_line → (Option plan_desk) → Int → (σ → (plan_line × Int) → Option (σ × Bool)) → σ → Option (σ × Bool × Bool))) (p0 : plan_line) (c2_ : Int) (d242 : plan_desk) (k2 : (Int → σ → Option (σ × Bool × Bool))) (x396 : Int) (s397 : σ) : Option (σ × Bool × Bool) :=
  bif (decide (x396 < ((d242.takes.length : Nat) : Int))) then ((plan_line_add F p0 x396).bind fun y438 =>
  (plan_line_first F y438).bind fun y450 =>
  bif y450.2 then ((body s397 (y438, y450.1)).bind fun q451 =>
  bif q451.2 then (pplan_desk_cuts_1_1_K3 x396 k2 q451.1) else (some (q451.1, false, false))) else (bif (((y438.jobs.length : Nat) : Int) == c2_) then ((body s397 (y438, -1)).bind fun q456 =>
  bif q456.2 then (pplan_desk_cuts_1_1_K3 x396 k2 q456.1) else (some (q456.1, false, false))) else ((self_ y438 (some d242) c2_ body s397).bind fun y461 =>
  bif y461.2.1 then (bif (!y461.2.2) then (some (y461.1, true, false)) else (pplan_desk_cuts_1_1_K3 x396 k2 y461.1)) else (bif (!y461.2.2) then (some (y461.1, false, false)) else (none))))) else (pplan_desk_cuts_1_1_K1 s397)

def pplan_desk_cuts_1_1_L2 {σ : Type} (F : Nat) (body : (σ → (plan_line × Int) → Option (σ × Bool))) (self_ : (plan_line → (Option plan_desk) → Int → (σ → (plan_line × Int) → Option (σ × Bool)) → σ → Option (σ × Bool × Bool))) (p0 : plan_line) (c2_ : Int) (d242 : plan_desk) : Nat → Int → σ → Option (σ × Bool × Bool)
  | 0, _, _ => none
  | n + 1, x396, s397 => pplan_desk_cuts_1_1_B2 F body self_ p0 c2_ d242 (pplan_desk_cuts_1_1_L2 F body self_ p0 c2_ d242 n) x396 s397

def pplan_desk_cuts_1_1_R {σ : Type} (F : Nat) (self_ : plan_line → (Option plan_desk) → Int → (σ → (plan_line × Int) → Option (σ × Bool)) → σ → Option (σ × Bool × Bool)) (p0 : plan_line) (c0_ : (Option plan_desk)) (c2_ : Int) (body : σ → (plan_line × Int) → Option (σ × Bool)) (s_ : σ) : Option (σ × Bool × Bool) :=
  (c0_).bind fun d242 =>
  pplan_desk_cuts_1_1_L2 F body self_ p0 c2_ d242 F 0 s_

def pplan_desk_cuts_1_1 {σ : Type} : Nat → plan_line → (Option plan_desk) → Int → (σ → (plan_line × Int) → Option (σ × Bool)) → σ → Option (σ × Bool × Bool)
  | 0, _, _, _, _, _ => none
  | F + 1, p0, c0_, c2_, body, s_ => pplan_desk_cuts_1_1_R F (pplan_desk_cuts_1_1 F) p0 c0_ c2_ body s_

def pplan_desk_cuts_1 {σ : Type} (F : Nat) (c0_ : (Option plan_desk)) (c1_ : Int) (body : σ → (plan_line × Int) → Option (σ × Bool)) (s_ : σ) : Option (σ × Bool) :=
  (pplan_desk_cuts_1_1 F (plan_line.mk c0_ ([] : (List Int)) ([] : (List Int)) 0) c0_ c1_ body s_).bind fun y13 =>
  bif y13.2.1 then (some (y13.1, true)) else (some (y13.1, false))

def pplan_desk_cuts (p0 : (Option plan_desk)) (p1 : Int) : Unit :=
  ()

def plan_Refute_Y1 (s_r : (Int × (List plan_Cut) × Int × Nat)) (x_ : (plan_line × Int)) : Option ((Int × (List plan_Cut) × Int × Nat) × Bool) :=
  bif (decide (x_.2 < 0)) then (some ((4, s_r.2.1, s_r.2.2.1, 1), false)) else ((ck (s_r.2.2.1 + 1)).bind fun x90 =>
  bif (decide (x90 ≤ 5000)) then ((apd 32 s_r.2.1 ([(plan_Cut.mk x_.1.jobs x_.2)])).bind fun l93 =>
  some ((s_r.1, l93, x90, 0), true)) else (some ((s_r.1, s_r.2.1, x90, 0), true)))

def plan_Refute_c1 (tg_ : Nat) : Code := .ret

def plan_Refute (F : Nat) (p0 : plan_Radar) (p1 : (List plan_Job)) (p2 : Int) : Option ((List plan_Cut) × Int) :=
  (plan_Check F p0 p1).bind fun y7 =>
  bif (y7 != 0) then (some (([] : (List plan_Cut)), y7)) else (bif (!(plan_in p2 1 8)) then (some (([] : (List plan_Cut)), 3)) else ((plan_newDesk F p0 p1).bind fun y11 =>
  (pplan_desk_cuts_1 F y11 p2 (plan_Refute_Y1) (0, ([] : List plan_Cut), 0, 0)).bind fun r98 =>
  bif r98.2 then (bif (decide (r98.1.2.2.1 > 5000)) then (some (([] : (List plan_Cut)), 9)) else (some (r98.1.2.1, 0))) else (some (([] : (List plan_Cut)), r98.1.1))))


def slices_Equal_int_int_K1 : Option Bool :=
  some true

def slices_Equal_int_int_B2 (p0 : (List Int)) (p1 : (List Int)) (k2 : (Int → Option Bool)) (x27 : Int) : Option Bool :=
  bif (decide (x27 < ((p0.length : Nat) : Int))) then ((getI p0 x27).bind fun u29 =>
  (getI p1 x27).bind fun u30 =>
  bif (u29 != u30) then (some false) else ((ck (x27 + 1)).bind fun x31 =>
  k2 x31)) else (slices_Equal_int_int_K1)

def slices_Equal_int_int_L2 (p0 : (List Int)) (p1 : (List Int)) : Nat → Int → Option Bool
  | 0, _ => none
  | n + 1, x27 => slices_Equal_int_int_B2 p0 p1 (slices_Equal_int_int_L2 p0 p1 n) x27

def slices_Equal_int_int (F : Nat) (p0 : (List Int)) (p1 : (List Int)) : Option Bool :=
  bif (((p0.length : Nat) : Int) != ((p1.length : Nat) : Int)) then (some false) else (slices_Equal_int_int_L2 p0 p1 F 0)

def plan_line_cover_K3 (l212 : (List plan_Cut)) : Option (Except Value (List plan_Cut)) :=
  some (.ok l212)

def plan_line_cover_B4 (F : Nat) (self_ : (plan_line → (List plan_Cut) → Option (Except Value (List plan_Cut)))) (p0 : plan_line) (d217 : plan_desk) (k4 : ((List plan_Cut) → Int → Option (Except Value (List plan_Cut)))) (l288 : (List plan_Cut)) (x291 : Int) : Option (Except Value (List plan_Cut)) :=
  bif (decide (x291 < ((d217.takes.length : Nat) : Int))) then ((plan_line_add F (plan_line.mk (some d217) p0.jobs p0.at_ p0.done) x291).bind fun y295 =>
  (self_ y295 l288).bind fun y307 =>
  exc y307 (fun v_ => some (.error v_)) fun y308 =>
  (ck (x291 + 1)).bind fun x315 =>
  k4 y308 x315) else (plan_line_cover_K3 l288)

def plan_line_cover_L4 (F : Nat) (self_ : (plan_line → (List plan_Cut) → Option (Except Value (List plan_Cut)))) (p0 : plan_line) (d217 : plan_desk) : Nat → (List plan_Cut) → Int → Option (Except Value (List plan_Cut))
  | 0, _, _ => none
  | n + 1, l288, x291 => plan_line_cover_B4 F self_ p0 d217 (plan_line_cover_L4 F self_ p0 d217 n) l288 x291

def plan_line_cover_K2 (F : Nat) (self_ : (plan_line → (List plan_Cut) → Option (Except Value (List plan_Cut)))) (p0 : plan_line) (p1 : (List plan_Cut)) (u14 : plan_Cut) : Option (Except Value (List plan_Cut)) :=
  bif (bif (decide (((p0.jobs.length : Nat) : Int) > 0)) then (((u14.Begin.length : Nat) : Int) == ((p0.jobs.length : Nat) : Int)) else false) then ((getI p1 0).bind fun u25 =>
  (p0.desk).bind fun d32 =>
  (ck (((d32.takes.length : Nat) : Int) - 1)).bind fun x48 =>
  bif (!(plan_in u25.Late 0 x48)) then (bif (bif (!(plan_in u25.Late 0 x48)) then true else true) then (some (.error (.iface 127 (.agg #[])))) else ((cutI p1 1 ((p1.length : Nat) : Int)).bind fun l71 =>
  some (.ok l71))) else ((getI p1 0).bind fun u97 =>
  (plan_line_late F (plan_line.mk (some d32) p0.jobs p0.at_ p0.done) u97.Late).bind fun y104 =>
  bif (bif (!(plan_in u25.Late 0 x48)) then true else (!y104)) then (some (.error (.iface 127 (.agg #[])))) else ((cutI p1 1 ((p1.length : Nat) : Int)).bind fun l105 =>
  some (.ok l105)))) else ((p0.desk).bind fun d217 =>
  plan_line_cover_L4 F self_ p0 d217 F p1 0)

def plan_line_cover_K1 (F : Nat) (self_ : (plan_line → (List plan_Cut) → Option (Except Value (List plan_Cut)))) (p0 : plan_line) (p1 : (List plan_Cut)) : Option (Except Value (List plan_Cut)) :=
  (getI p1 0).bind fun u14 =>
  bif (bif (decide (((u14.Begin.length : Nat) : Int) < ((p0.jobs.length : Nat) : Int))) then true else (decide (((p0.jobs.length : Nat) : Int) > 16))) then (bif (bif (bif (decide (((u14.Begin.length : Nat) : Int) < ((p0.jobs.length : Nat) : Int))) then true else (decide (((p0.jobs.length : Nat) : Int) > 16))) then true else true) then (some (.error (.iface 127 (.agg #[])))) else (plan_line_cover_K2 F self_ p0 p1 u14)) else ((cutI u14.Begin (0 : Int) ((p0.jobs.length : Nat) : Int)).bind fun l318 =>
  (slices_Equal_int_int F l318 p0.jobs).bind fun y320 =>
  bif (bif (bif (decide (((u14.Begin.length : Nat) : Int) < ((p0.jobs.length : Nat) : Int))) then true else (decide (((p0.jobs.length : Nat) : Int) > 16))) then true else (!y320)) then (some (.error (.iface 127 (.agg #[])))) else (plan_line_cover_K2 F self_ p0 p1 u14))

def plan_line_cover_R (F : Nat) (self_ : plan_line → (List plan_Cut) → Option (Except Value (List plan_Cut))) (p0 : plan_line) (p1 : (List plan_Cut)) : Option (Except Value (List plan_Cut)) :=
  bif (((p1.length : Nat) : Int) == 0) then (some (.error (.iface 127 (.agg #[])))) else (plan_line_cover_K1 F self_ p0 p1)

def plan_line_cover : Nat → plan_line → (List plan_Cut) → Option (Except Value (List plan_Cut))
  | 0, _, _ => none
  | F + 1, p0, p1 => plan_line_cover_R F (plan_line_cover F) p0 p1

def plan_Verify (F : Nat) (p0 : plan_Radar) (p1 : (List plan_Job)) (p2 : (List plan_Cut)) : Option Int :=
  (plan_Check F p0 p1).bind fun y10 =>
  bif (y10 != 0) then (some y10) else (bif (decide (((p2.length : Nat) : Int) > 5000)) then (some 9) else ((plan_newDesk F p0 p1).bind fun y12 =>
  (plan_line_cover F (plan_line.mk y12 ([] : (List Int)) ([] : (List Int)) 0) p2).bind fun y18 =>
  exc y18 (fun v_ => bif isI 127 v_ then (some 20) else none) fun y19 =>
  bif (decide (((y19.length : Nat) : Int) > 0)) then (some 20) else (some 0)))

def slices_Min_int_int_K2 (x16 : Int) : Option Int :=
  some x16

def slices_Min_int_int_B3 (p0 : (List Int)) (k3 : (Int → Int → Option Int)) (x24 : Int) (x25 : Int) : Option Int :=
  bif (decide (x25 < ((p0.length : Nat) : Int))) then ((getI p0 x25).bind fun u27 =>
  (ck (x25 + 1)).bind fun x28 =>
  k3 (if u27 < x24 then u27 else x24) x28) else (slices_Min_int_int_K2 x24)

def slices_Min_int_int_L3 (p0 : (List Int)) : Nat → Int → Int → Option Int
  | 0, _, _ => none
  | n + 1, x24, x25 => slices_Min_int_int_B3 p0 (slices_Min_int_int_L3 p0 n) x24 x25

def slices_Min_int_int_K1 (F : Nat) (p0 : (List Int)) : Option Int :=
  (getI p0 0).bind fun u4 =>
  slices_Min_int_int_L3 p0 F u4 1

def slices_Min_int_int (F : Nat) (p0 : (List Int)) : Option Int :=
  bif (decide (((p0.length : Nat) : Int) < 1)) then (none) else (slices_Min_int_int_K1 F p0)

def plan_line_bears_K1 : Option Bool :=
  some true

def plan_line_bears_K3 (x847 : Int) (k2 : (Int → Option Bool)) : Option Bool :=
  (ck (x847 + 1)).bind fun x928 =>
  k2 x928

def plan_line_bears_K7 (p2 : Int) (d510 : plan_desk) (x847 : Int) (k2 : (Int → Option Bool)) (x967 : Int) (x970 : Int) : Option Bool :=
  (ck (x970 - x967)).bind fun x971 =>
  (ck (x971 + p2)).bind fun x972 =>
  (getI d510.jobs x847).bind fun u973 =>
  bif (decide (x972 > u973.Every)) then (some false) else (plan_line_bears_K3 x847 k2)

def plan_line_bears_K6 (F : Nat) (p0 : plan_line) (p2 : Int) (d510 : plan_desk) (x847 : Int) (k2 : (Int → Option Bool)) (x959 : Int) (u964 : Int) (x967 : Int) : Option Bool :=
  bif (decide (x959 ≥ ((p0.jobs.length : Nat) : Int))) then ((plan_line_all F (plan_line.mk (some d510) p0.jobs p0.at_ p0.done)).bind fun y975 =>
  (ck (u964 + y975)).bind fun x976 =>
  plan_line_bears_K7 p2 d510 x847 k2 x967 x976) else (plan_line_bears_K7 p2 d510 x847 k2 x967 u964)

def plan_line_bears_K5 (F : Nat) (p0 : plan_line) (p2 : Int) (d510 : plan_desk) (x847 : Int) (k2 : (Int → Option Bool)) (x946 : Int) (x959 : Int) : Option Bool :=
  (ck (x946 + ((p0.jobs.length : Nat) : Int))).bind fun x960 =>
  (remC x960 ((p0.jobs.length : Nat) : Int)).bind fun x961 =>
  (getI p0.at_ x961).bind fun u962 =>
  (remC x959 ((p0.jobs.length : Nat) : Int)).bind fun x963 =>
  (getI p0.at_ x963).bind fun u964 =>
  bif (decide (x946 < 0)) then ((plan_line_all F (plan_line.mk (some d510) p0.jobs p0.at_ p0.done)).bind fun y978 =>
  (ck (u962 - y978)).bind fun x979 =>
  plan_line_bears_K6 F p0 p2 d510 x847 k2 x959 u964 x979) else (plan_line_bears_K6 F p0 p2 d510 x847 k2 x959 u964 u962)

def plan_line_bears_B8 (F : Nat) (p0 : plan_line) (p2 : Int) (d510 : plan_desk) (x847 : Int) (k2 : (Int → Option Bool)) (x946 : Int) (k8 : (Int → Option Bool)) (x988 : Int) : Option Bool :=
  (remC x988 ((p0.jobs.length : Nat) : Int)).bind fun x990 =>
  (getI p0.jobs x990).bind fun u991 =>
  bif (u991 != x847) then ((ck (x988 + 1)).bind fun x992 =>
  k8 x992) else (plan_line_bears_K5 F p0 p2 d510 x847 k2 x946 x988)

def plan_line_bears_L8 (F : Nat) (p0 : plan_line) (p2 : Int) (d510 : plan_desk) (x847 : Int) (k2 : (Int → Option Bool)) (x946 : Int) : Nat → Int → Option Bool
  | 0, _ => none
  | n + 1, x988 => plan_line_bears_B8 F p0 p2 d510 x847 k2 x946 (plan_line_bears_L8 F p0 p2 d510 x847 k2 x946 n) x988

def plan_line_bears_K4 (F : Nat) (p0 : plan_line) (p2 : Int) (d510 : plan_desk) (x847 : Int) (k2 : (Int → Option Bool)) (x930 : Int) (x946 : Int) : Option Bool :=
  plan_line_bears_L8 F p0 p2 d510 x847 k2 x946 F x930

def plan_line_bears_B9 (F : Nat) (p0 : plan_line) (p2 : Int) (d510 : plan_desk) (x847 : Int) (k2 : (Int → Option Bool)) (x930 : Int) (k9 : (Int → Option Bool)) (x1003 : Int) : Option Bool :=
  (ck (x1003 + ((p0.jobs.length : Nat) : Int))).bind fun x1005 =>
  (remC x1005 ((p0.jobs.length : Nat) : Int)).bind fun x1006 =>
  (getI p0.jobs x1006).bind fun u1007 =>
  bif (u1007 != x847) then ((ck (x1003 - 1)).bind fun x1008 =>
  k9 x1008) else (plan_line_bears_K4 F p0 p2 d510 x847 k2 x930 x1003)

def plan_line_bears_L9 (F : Nat) (p0 : plan_line) (p2 : Int) (d510 : plan_desk) (x847 : Int) (k2 : (Int → Option Bool)) (x930 : Int) : Nat → Int → Option Bool
  | 0, _ => none
  | n + 1, x1003 => plan_line_bears_B9 F p0 p2 d510 x847 k2 x930 (plan_line_bears_L9 F p0 p2 d510 x847 k2 x930 n) x1003

def plan_line_bears_B2 (F : Nat) (p0 : plan_line) (p1 : Int) (p2 : Int) (d510 : plan_desk) (k2 : (Int → Option Bool)) (x847 : Int) : Option Bool :=
  bif (decide (x847 < ((d510.takes.length : Nat) : Int))) then ((ck (p1 + 1)).bind fun x930 =>
  plan_line_bears_L9 F p0 p2 d510 x847 k2 x930 F p1) else (plan_line_bears_K1)

def plan_line_bears_L2 (F : Nat) (p0 : plan_line) (p1 : Int) (p2 : Int) (d510 : plan_desk) : Nat → Int → Option Bool
  | 0, _ => none
  | n + 1, x847 => plan_line_bears_B2 F p0 p1 p2 d510 (plan_line_bears_L2 F p0 p1 p2 d510 n) x847

def plan_line_bears (F : Nat) (p0 : plan_line) (p1 : Int) (p2 : Int) : Option Bool :=
  (p0.desk).bind fun d510 =>
  plan_line_bears_L2 F p0 p1 p2 d510 F 0

def plan_Insert_K1 : Option (Int × Int) :=
  some (0, 28)

def plan_Insert_B2 (F : Nat) (p0 : plan_Radar) (p1 : (List plan_Job)) (p2 : (List Int)) (p3 : plan_Job) (p4 : Int) (y10 : (plan_line × (List Int) × Int)) (k2 : (Int → Option (Int × Int))) (x253 : Int) : Option (Int × Int) :=
  bif (decide (x253 < ((p2.length : Nat) : Int))) then ((getI p2 x253).bind fun u255 =>
  (ck (x253 + 1)).bind fun x256 =>
  (remC x256 ((p2.length : Nat) : Int)).bind fun x257 =>
  (getI p2 x257).bind fun u258 =>
  (getI y10.1.at_ x253).bind fun u259 =>
  (y10.1.desk).bind fun d260 =>
  (getI d260.takes u255).bind fun u276 =>
  (ck (u259 + u276)).bind fun x277 =>
  (getI p1 u255).bind fun u278 =>
  (plan_Radar_move F p0 u278 p3).bind fun y279 =>
  (ck (x277 + y279)).bind fun x280 =>
  (getI p1 u255).bind fun u281 =>
  (plan_Radar_move F p0 u281 p3).bind fun y282 =>
  (plan_Radar_time F p0 p3).bind fun y283 =>
  (ck (y282 + y283)).bind fun x284 =>
  (getI p1 u258).bind fun u285 =>
  (plan_Radar_move F p0 p3 u285).bind fun y286 =>
  (ck (x284 + y286)).bind fun x287 =>
  (getI d260.moves u255).bind fun u288 =>
  (getI u288 u258).bind fun u295 =>
  (ck (x287 - u295)).bind fun x296 =>
  (gd (((decide (x280 ≤ p4)) == true && true)) (plan_line_bears F (plan_line.mk (some d260) y10.1.jobs y10.1.at_ y10.1.done) x253 x296) default).bind fun y297 =>
  bif (bif (decide (x280 ≤ p4)) then y297 else false) then (some (x253, 0)) else ((ck (x253 + 1)).bind fun x298 =>
  k2 x298)) else (plan_Insert_K1)

def plan_Insert_L2 (F : Nat) (p0 : plan_Radar) (p1 : (List plan_Job)) (p2 : (List Int)) (p3 : plan_Job) (p4 : Int) (y10 : (plan_line × (List Int) × Int)) : Nat → Int → Option (Int × Int)
  | 0, _ => none
  | n + 1, x253 => plan_Insert_B2 F p0 p1 p2 p3 p4 y10 (plan_Insert_L2 F p0 p1 p2 p3 p4 y10 n) x253

def plan_Insert (F : Nat) (p0 : plan_Radar) (p1 : (List plan_Job)) (p2 : (List Int)) (p3 : plan_Job) (p4 : Int) : Option (Int × Int) :=
  (plan_judged F p0 p1 p2).bind fun y10 =>
  bif (y10.2.2 != 0) then (some (0, y10.2.2)) else ((plan_Check F p0 ([p3])).bind fun y26 =>
  bif (y26 != 0) then (some (0, y26)) else ((slices_Min_int_int F y10.2.1).bind fun y27 =>
  bif (decide (y27 < 0)) then (some (0, 6)) else (bif (!(plan_in p4 0 4294967296)) then (some (0, 3)) else (plan_Insert_L2 F p0 p1 p2 p3 p4 y10 F 0))))

def law06_example (p0 : Int) (p1 : Int) : plan_Job :=
  (plan_Job.mk p0 (pulse_Train.mk 100000 1 1000 0 5) 10 p1)

def law06_works (F : Nat) : Option Bool :=
  (plan_Time F (plan_Radar.mk 4 0 1 1000) (law06_example 0 60)).bind fun y6 =>
  (plan_Time F (plan_Radar.mk 4 0 1 1000) (plan_Job.mk ((law06_example 0 60).Tilt) (pulse_Train.mk 100000 3 1000 2000 3) ((law06_example 0 60).Width) ((law06_example 0 60).Every))).bind fun y7 =>
  (plan_Judge F (plan_Radar.mk 4 0 1 1000) ([(law06_example 0 60), (law06_example 2 50)]) ([0, 1])).bind fun y34 =>
  (plan_Judge F (plan_Radar.mk 4 0 1 1000) ([(law06_example 0 60), (law06_example 2 50)]) ([0, 0, 1])).bind fun y46 =>
  bif (bif (bif (bif (bif (bif (y6.2 != 0) then true else (y7.2 != 0)) then true else (y34.2 != 0)) then true else (y46.2 != 0)) then true else (y6.1 != 20)) then true else (y7.1 != 16)) then (some false) else ((law06_numbers F y34.1 ([16, 6])).bind fun y54 =>
  bif (!y54) then (some false) else ((law06_numbers F y46.1 ([16, -14])).bind fun y57 =>
  bif (!y57) then (some false) else ((plan_Best F (plan_Radar.mk 4 0 1 1000) ([(law06_example 0 60), (law06_example 2 50)]) 3).bind fun y59 =>
  (plan_Best F (plan_Radar.mk 4 0 1 1000) ([(law06_example 0 60), (law06_example 2 50), (law06_example 10 40)]) 6).bind fun y70 =>
  (plan_Refute F (plan_Radar.mk 4 0 1 1000) ([(law06_example 0 60), (law06_example 2 50), (law06_example 10 40)]) 2).bind fun y77 =>
  (plan_Refute F (plan_Radar.mk 4 0 1 1000) ([(law06_example 0 60), (law06_example 2 50)]) 2).bind fun y85 =>
  bif (bif (bif (bif (y59.2 != 0) then true else (y70.2 != 4)) then true else (y77.2 != 0)) then true else (y85.2 != 4)) then (some false) else ((law06_numbers F y59.1 ([0, 1])).bind fun y96 =>
  bif (bif (!y96) then true else (((y77.1.length : Nat) : Int) != 3)) then (some false) else ((getI y77.1 0).bind fun u98 =>
  bif (u98.Late != 2) then (some false) else ((getI y77.1 1).bind fun u106 =>
  bif (u106.Late != 2) then (some false) else ((getI y77.1 2).bind fun u114 =>
  bif (u114.Late != 1) then (some false) else ((getI y77.1 2).bind fun u122 =>
  (law06_numbers F u122.Begin ([2])).bind fun y131 =>
  bif (!y131) then (some false) else ((plan_Verify F (plan_Radar.mk 4 0 1 1000) ([(law06_example 0 60), (law06_example 2 50), (law06_example 10 40)]) y77.1).bind fun y134 =>
  bif (y134 != 0) then (some false) else ((cutI y77.1 1 ((y77.1.length : Nat) : Int)).bind fun l136 =>
  (plan_Verify F (plan_Radar.mk 4 0 1 1000) ([(law06_example 0 60), (law06_example 2 50), (law06_example 10 40)]) l136).bind fun y142 =>
  bif (y142 != 20) then (some false) else ((plan_Insert F (plan_Radar.mk 4 0 1 1000) ([(law06_example 0 60), (law06_example 2 50)]) ([0, 1]) (plan_Job.mk 1 (pulse_Train.mk (((law06_example 0 60).Train).Lambda) (((law06_example 0 60).Train).Kind) 500 (((law06_example 0 60).Train).Second) 2) ((law06_example 0 60).Width) ((law06_example 0 60).Every)) 21).bind fun y145 =>
  (plan_Insert F (plan_Radar.mk 4 0 1 1000) ([(law06_example 0 60), (law06_example 2 50)]) ([0, 1]) (plan_Job.mk 1 (pulse_Train.mk (((law06_example 0 60).Train).Lambda) (((law06_example 0 60).Train).Kind) 500 (((law06_example 0 60).Train).Second) 2) ((law06_example 0 60).Width) ((law06_example 0 60).Every)) 20).bind fun y147 =>
  (plan_Where F (plan_Radar.mk 4 0 1 1000) ([(law06_example 0 60), (law06_example 2 50)]) ([0, 1]) 7).bind fun y149 =>
  (plan_Where F (plan_Radar.mk 4 0 1 1000) ([(law06_example 0 60), (law06_example 2 50)]) ([0, 1]) 21).bind fun y151 =>
  some (bif (bif (bif (bif (bif (bif (bif (y145.2 == 0) then (y147.2 == 28) else false) then (y149.2.2 == 0) else false) then (y151.2.2 == 0) else false) then (y145.1 == 0) else false) then (y149.1 == 0) else false) then (y149.2.1 == 1) else false) then (y151.2.1 == (-1)) else false))))))))))))

def law06_Desk_radar (F : Nat) (p0 : law06_Desk) : Option plan_Radar :=
  (ck p0.Rays).bind fun x6 =>
  (remC x6 8).bind fun x7 =>
  (ck (1 + x7)).bind fun x8 =>
  (ck p0.Turn).bind fun x9 =>
  (remC x9 30).bind fun x10 =>
  (ck p0.Move).bind fun x11 =>
  (remC x11 4).bind fun x12 =>
  (ck p0.Duty).bind fun x13 =>
  (ck (x13 * 3)).bind fun x14 =>
  (ck (1 + x14)).bind fun x15 =>
  some (plan_Radar.mk x8 x10 x12 x15)

def law06_Wish_job_K2 (p0 : law06_Wish) (x5 : Int) (x8 : Int) (x15 : Int) (x17 : Int) : Option plan_Job :=
  (ck p0.Tilt).bind fun x18 =>
  (remC x18 12).bind fun x19 =>
  (ck p0.Width).bind fun x20 =>
  (ck (1 + x20)).bind fun x21 =>
  (ck p0.Every).bind fun x22 =>
  (remC x22 400).bind fun x23 =>
  (ck (1 + x23)).bind fun x24 =>
  some (plan_Job.mk x19 (pulse_Train.mk 100000 x5 x8 x15 x17) x21 x24)

def law06_Wish_job_K1 (p0 : law06_Wish) (x5 : Int) (x8 : Int) (x12 : Int) (x15 : Int) : Option plan_Job :=
  bif (x5 == 3) then ((ck (x12 - 1)).bind fun x26 =>
  law06_Wish_job_K2 p0 x5 x8 x15 x26) else (law06_Wish_job_K2 p0 x5 x8 x15 x12)

def law06_Wish_job (F : Nat) (p0 : law06_Wish) : Option plan_Job :=
  (ck p0.Kind).bind fun x3 =>
  (remC x3 3).bind fun x4 =>
  (ck (1 + x4)).bind fun x5 =>
  (ck p0.First).bind fun x6 =>
  (ck (10 * x6)).bind fun x7 =>
  (ck (200 + x7)).bind fun x8 =>
  (ck p0.Count).bind fun x9 =>
  (remC x9 4).bind fun x10 =>
  (ck (2 * x10)).bind fun x11 =>
  (ck (4 + x11)).bind fun x12 =>
  bif (x5 != 1) then ((ck (x8 + 100)).bind fun x28 =>
  law06_Wish_job_K1 p0 x5 x8 x12 x28) else (law06_Wish_job_K1 p0 x5 x8 x12 0)

def law06_Desk_jobs_K1 (F : Nat) (l73 : (List plan_Job)) : Option (List plan_Job) :=
  bif (((l73.length : Nat) : Int) == 0) then ((law06_Wish_job F (law06_Wish.mk 0 0 0 0 0 0)).bind fun y74 =>
  (apd 64 l73 ([y74])).bind fun l76 =>
  some l76) else (some l73)

def law06_Desk_jobs_K3 (x125 : Int) (k2 : ((List plan_Job) → Int → Option (List plan_Job))) (l136 : (List plan_Job)) : Option (List plan_Job) :=
  (ck (x125 + 1)).bind fun x137 =>
  k2 l136 x137

def law06_Desk_jobs_B2 (F : Nat) (p0 : law06_Desk) (k2 : ((List plan_Job) → Int → Option (List plan_Job))) (l124 : (List plan_Job)) (x125 : Int) : Option (List plan_Job) :=
  bif (decide (x125 < ((p0.Jobs.length : Nat) : Int))) then ((getI p0.Jobs x125).bind fun u139 =>
  bif (decide (x125 < 4)) then ((law06_Wish_job F u139).bind fun y141 =>
  (apd 64 l124 ([y141])).bind fun l143 =>
  law06_Desk_jobs_K3 x125 k2 l143) else (law06_Desk_jobs_K3 x125 k2 l124)) else (law06_Desk_jobs_K1 F l124)

def law06_Desk_jobs_L2 (F : Nat) (p0 : law06_Desk) : Nat → (List plan_Job) → Int → Option (List plan_Job)
  | 0, _, _ => none
  | n + 1, l124, x125 => law06_Desk_jobs_B2 F p0 (law06_Desk_jobs_L2 F p0 n) l124 x125

def law06_Desk_jobs (F : Nat) (p0 : law06_Desk) : Option (List plan_Job) :=
  law06_Desk_jobs_L2 F p0 F ([]) 0

def law06_PlanProofs (F : Nat) (p0 : law06_Desk) (p1 : Int) (p2 : Int) (p3 : Int) : Option Bool :=
  (law06_Desk_radar F p0).bind fun y6 =>
  (law06_Desk_jobs F p0).bind fun y8 =>
  (ck p1).bind fun x45 =>
  (remC x45 4).bind fun x46 =>
  (ck (1 + x46)).bind fun x47 =>
  (plan_Refute F y6 y8 x47).bind fun y53 =>
  bif (y53.2 != 0) then ((gd (((y53.2 == 4) == true && true)) (law06_works F ) default).bind fun y60 =>
  some (bif (y53.2 == 4) then y60 else false)) else ((gd (((decide (((y53.1.length : Nat) : Int) < 1)) == false && true)) (plan_Verify F y6 y8 y53.1) default).bind fun y61 =>
  bif (bif (decide (((y53.1.length : Nat) : Int) < 1)) then true else (y61 != 0)) then (some false) else ((ck p2).bind fun x62 =>
  (remC x62 ((y53.1.length : Nat) : Int)).bind fun x63 =>
  (ck p3).bind fun x64 =>
  (remC x64 ((y8.length : Nat) : Int)).bind fun x65 =>
  (cutI y53.1 (0 : Int) x63).bind fun l66 =>
  (ck (x63 + 1)).bind fun x71 =>
  (cutI y53.1 x71 ((y53.1.length : Nat) : Int)).bind fun l72 =>
  (apd 32 ([] : List plan_Cut) l66).bind fun l79 =>
  (apd 32 l79 l72).bind fun l113 =>
  (ck (x63 + 1)).bind fun x118 =>
  (cutI y53.1 (0 : Int) x118).bind fun l119 =>
  (cutI y53.1 x63 ((y53.1.length : Nat) : Int)).bind fun l124 =>
  (apd 32 ([] : List plan_Cut) l119).bind fun l131 =>
  (apd 32 l131 l124).bind fun l165 =>
  (apd 32 ([] : List plan_Cut) y53.1).bind fun l172 =>
  (getI y53.1 x63).bind fun u178 =>
  (apd 8 ([] : List Int) u178.Begin).bind fun l185 =>
  (apd 8 l185 ([x65])).bind fun l189 =>
  (getI l172 x63).bind fun u192 =>
  (setI l172 x63 (plan_Cut.mk l189 u192.Late)).bind fun l203 =>
  (plan_Verify F y6 y8 l113).bind fun y206 =>
  (gd (((y206 != 20) == false && true)) (plan_Verify F y6 y8 l165) default).bind fun y207 =>
  (gd (((decide (((y8.length : Nat) : Int) > 1)) == true && ((bif (y206 != 20) then true else (y207 != 20)) == false && true))) (plan_Verify F y6 y8 l203) default).bind fun y208 =>
  bif (bif (bif (y206 != 20) then true else (y207 != 20)) then true else (bif (decide (((y8.length : Nat) : Int) > 1)) then (y208 != 20) else false)) then (some false) else ((apd 64 ([] : List plan_Job) y8).bind fun l210 =>
  (getI l210 x65).bind fun u213 =>
  (ck (u213.Every - 1)).bind fun x214 =>
  (quoC x214 2).bind fun x215 =>
  (ck (1 + x215)).bind fun x216 =>
  (getI l210 x65).bind fun u217 =>
  (setI l210 x65 (plan_Job.mk u217.Tilt u217.Train u217.Width x216)).bind fun l218 =>
  (plan_Verify F y6 l218 y53.1).bind fun y219 =>
  (gd (((y219 == 0) == true && true)) (law06_works F ) default).bind fun y220 =>
  some (bif (y219 == 0) then y220 else false))))

end Go.Proofs.Ytejffembnkojjaa
