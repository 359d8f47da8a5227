/- Plain programs, written by program (wip/gen/dec.py). -/
import Derived.Test.YtbhjgebjojdohaaF9EB
namespace Go.Proofs.Ytbhjgebjojdohaa
open Go Go.RowKit Go.Eng
set_option maxRecDepth 10000
set_option maxHeartbeats 4000000
set_option linter.unusedVariables false
set_option linter.unusedSimpArgs false
structure pulse_Train where
  Lambda : Int
  Kind : Int
  First : Int
  Second : Int
  Count : Int
  deriving Inhabited, DecidableEq

def pulse_Train.cells (x : pulse_Train) : List Value := [.int .i64 x.Lambda, .int .i64 x.Kind, .int .i64 x.First, .int .i64 x.Second, .int .i64 x.Count]
theorem pulse_Train.cells_len (x : pulse_Train) : (pulse_Train.cells x).length = 5 := rfl

structure api_Span where
  Lo : Int
  Hi : Int
  deriving Inhabited, DecidableEq

def api_Span.cells (x : api_Span) : List Value := [.int .i64 x.Lo, .int .i64 x.Hi]
theorem api_Span.cells_len (x : api_Span) : (api_Span.cells x).length = 2 := rfl

structure api_Echo where
  Kind : Int
  Power : api_Span
  Steps : (api_Span × api_Span)
  Spread : Int
  Ratio : api_Span
  Match : api_Span
  Turn : api_Span
  deriving Inhabited, DecidableEq

def api_Echo.cells (x : api_Echo) : List Value := [.int .i64 x.Kind, .int .i64 x.Power.Lo, .int .i64 x.Power.Hi, .int .i64 x.Steps.1.Lo, .int .i64 x.Steps.1.Hi, .int .i64 x.Steps.2.Lo, .int .i64 x.Steps.2.Hi, .int .i64 x.Spread, .int .i64 x.Ratio.Lo, .int .i64 x.Ratio.Hi, .int .i64 x.Match.Lo, .int .i64 x.Match.Hi, .int .i64 x.Turn.Lo, .int .i64 x.Turn.Hi]
theorem api_Echo.cells_len (x : api_Echo) : (api_Echo.cells x).length = 14 := rfl

structure fold_option where
  whole : Int
  speed : api_Span
  deriving Inhabited, DecidableEq

def fold_option.cells (x : fold_option) : List Value := [.int .i64 x.whole, .int .i64 x.speed.Lo, .int .i64 x.speed.Hi]
theorem fold_option.cells_len (x : fold_option) : (fold_option.cells x).length = 3 := rfl

structure fold_Guess where
  Whole : (Int × Int)
  Speed : api_Span
  deriving Inhabited, DecidableEq

def fold_Guess.cells (x : fold_Guess) : List Value := [.int .i64 x.Whole.1, .int .i64 x.Whole.2, .int .i64 x.Speed.Lo, .int .i64 x.Speed.Hi]
theorem fold_Guess.cells_len (x : fold_Guess) : (fold_Guess.cells x).length = 4 := rfl

structure ref02_Train where
  Lambda : Int
  Kind : Int
  First : Int
  Second : Int
  Count : Int
  deriving Inhabited, DecidableEq

def ref02_Train.cells (x : ref02_Train) : List Value := [.int .i64 x.Lambda, .int .i64 x.Kind, .int .i64 x.First, .int .i64 x.Second, .int .i64 x.Count]
theorem ref02_Train.cells_len (x : ref02_Train) : (ref02_Train.cells x).length = 5 := rfl

structure ref03_Guess where
  Whole : (Int × Int)
  Speed : api_Span
  deriving Inhabited, DecidableEq

def ref03_Guess.cells (x : ref03_Guess) : List Value := [.int .i64 x.Whole.1, .int .i64 x.Whole.2, .int .i64 x.Speed.Lo, .int .i64 x.Speed.Hi]
theorem ref03_Guess.cells_len (x : ref03_Guess) : (ref03_Guess.cells x).length = 4 := rfl

def Rp43 : Rel (List api_Span) := fun μ cs x => ∃ (ad1 : Option Addr) (cap2 : Nat), cs = [.slice ad1 x.length cap2] ∧ ArrM μ 2 api_Span.cells ad1 cap2 x
theorem Rp43.mono : Rel.Mono Rp43 := by
  intro μ ν cs x hle h
  obtain ⟨ad1, cap2, rfl, f0⟩ := h
  exact ⟨ad1, cap2, rfl, f0.mono hle⟩
theorem Rp43.one : Rel.One 1 Rp43 := by
  intro μ cs x h
  obtain ⟨ad1, cap2, rfl, f0⟩ := h
  all_goals rfl

def Rp132 : Rel (List api_Span) := fun μ cs x => ∃ (ad1 : Option Addr) (cap2 : Nat), cs = [.slice ad1 x.length cap2] ∧ ArrM μ 2 api_Span.cells ad1 cap2 x
theorem Rp132.mono : Rel.Mono Rp132 := by
  intro μ ν cs x hle h
  obtain ⟨ad1, cap2, rfl, f0⟩ := h
  exact ⟨ad1, cap2, rfl, f0.mono hle⟩
theorem Rp132.one : Rel.One 1 Rp132 := by
  intro μ cs x h
  obtain ⟨ad1, cap2, rfl, f0⟩ := h
  all_goals rfl

def Rp91 : Rel (List Int) := fun μ cs x => ∃ (ad1 : Option Addr) (cap2 : Nat), cs = [.slice ad1 x.length cap2] ∧ ArrM μ 1 (fK .u8) ad1 cap2 x
theorem Rp91.mono : Rel.Mono Rp91 := by
  intro μ ν cs x hle h
  obtain ⟨ad1, cap2, rfl, f0⟩ := h
  exact ⟨ad1, cap2, rfl, f0.mono hle⟩
theorem Rp91.one : Rel.One 1 Rp91 := by
  intro μ cs x h
  obtain ⟨ad1, cap2, rfl, f0⟩ := h
  all_goals rfl

def law03_works : Bool := true
/-- Spans whose differences are no overflow. -/
def spB (s : api_Span) : Prop := -4000000000000000000 ≤ s.Lo ∧ s.Lo ≤ 4000000000000000000
instance (s : api_Span) : Decidable (spB s) := by unfold spB; infer_instance
instance : Inhabited {s : api_Span // spB s} := ⟨⟨⟨0, 0⟩, by decide⟩⟩
def spCmp (x y : {s : api_Span // spB s}) : Int := x.val.Lo - y.val.Lo
/-- slices.SortFunc, by where spans begin. -/
def slices_SortFunc100 (F : Nat) (p0 : List api_Span) : Option (List api_Span) :=
  if h : (∀ s ∈ p0, spB s) ∧ p0.length < 4611686018427387904 then some ((sortL spCmp (p0.pmap Subtype.mk h.1)).map Subtype.val) else none

def fold_common (p0 : api_Span) (p1 : api_Span) : (api_Span × Bool) :=
  ((api_Span.mk (if p1.Lo > p0.Lo then p1.Lo else p0.Lo) (if p1.Hi < p0.Hi then p1.Hi else p0.Hi)), decide ((if p1.Lo > p0.Lo then p1.Lo else p0.Lo) ≤ (if p1.Hi < p0.Hi then p1.Hi else p0.Hi)))

def ref03_common (p0 : api_Span) (p1 : api_Span) : (api_Span × Bool) :=
  ((api_Span.mk (if p1.Lo > p0.Lo then p1.Lo else p0.Lo) (if p1.Hi < p0.Hi then p1.Hi else p0.Hi)), decide ((if p1.Lo > p0.Lo then p1.Lo else p0.Lo) ≤ (if p1.Hi < p0.Hi then p1.Hi else p0.Hi)))

def fold_checked_K1 : Option Int :=
  some 0

def fold_checked_B2 (p0 : (List api_Span)) (p1 : Bool) (k2 : (Int → Option Int)) (x34 : Int) : Option Int :=
  bif (decide (x34 < ((p0.length : Nat) : Int))) then ((getI p0 x34).bind fun u36 =>
  bif (bif (bif (decide (u36.Lo > u36.Hi)) then true else (decide (u36.Lo < (-200000)))) then true else (decide (u36.Hi > 200000))) then (some 3) else ((gd (((bif p1 then (decide (x34 > 0)) else false) == true && true)) (ck (x34 - 1)) 0).bind fun x38 =>
  (gd (((bif p1 then (decide (x34 > 0)) else false) == true && true)) (getI p0 x38) default).bind fun u39 =>
  bif (bif (bif p1 then (decide (x34 > 0)) else false) then (decide (u36.Lo ≤ u39.Hi)) else false) then (some 12) else ((ck (x34 + 1)).bind fun x40 =>
  k2 x40))) else (fold_checked_K1)

def fold_checked_L2 (p0 : (List api_Span)) (p1 : Bool) : Nat → Int → Option Int
  | 0, _ => none
  | n + 1, x34 => fold_checked_B2 p0 p1 (fold_checked_L2 p0 p1 n) x34

def fold_checked (F : Nat) (p0 : (List api_Span)) (p1 : Bool) : Option Int :=
  bif (decide (((p0.length : Nat) : Int) > 256)) then (some 9) else (fold_checked_L2 p0 p1 F 0)

def slices_Clone_fold_speeds_api_Span (F : Nat) (p0 : (List api_Span)) : Option (List api_Span) :=
  (apd 16 ([] : List api_Span) p0).bind fun l5 =>
  some l5

def fold_speeds_united_K1 (l102 : (List api_Span)) : Option (List api_Span) :=
  some l102

def fold_speeds_united_K3 (x158 : Int) (k2 : (Int → (List api_Span) → Option (List api_Span))) (l178 : (List api_Span)) : Option (List api_Span) :=
  (ck (x158 + 1)).bind fun x179 =>
  k2 x179 l178

def fold_speeds_united_B2 (y9 : (List api_Span)) (k2 : (Int → (List api_Span) → Option (List api_Span))) (x158 : Int) (l161 : (List api_Span)) : Option (List api_Span) :=
  bif (decide (x158 < ((y9.length : Nat) : Int))) then ((getI y9 x158).bind fun u181 =>
  (gd (((decide (((l161.length : Nat) : Int) > 0)) == true && true)) (ck (((l161.length : Nat) : Int) - 1)) 0).bind fun x183 =>
  (gd (((decide (((l161.length : Nat) : Int) > 0)) == true && true)) (getI l161 x183) default).bind fun u184 =>
  bif (bif (decide (((l161.length : Nat) : Int) > 0)) then (decide (u181.Lo ≤ u184.Hi)) else false) then ((ck (((l161.length : Nat) : Int) - 1)).bind fun x185 =>
  (ck (((l161.length : Nat) : Int) - 1)).bind fun x186 =>
  (getI l161 x186).bind fun u187 =>
  (getI l161 x185).bind fun u188 =>
  (setI l161 x185 (api_Span.mk u188.Lo (if u181.Hi > u187.Hi then u181.Hi else u187.Hi))).bind fun l189 =>
  fold_speeds_united_K3 x158 k2 l189) else ((apd 16 l161 ([u181])).bind fun l191 =>
  fold_speeds_united_K3 x158 k2 l191)) else (fold_speeds_united_K1 l161)

def fold_speeds_united_L2 (y9 : (List api_Span)) : Nat → Int → (List api_Span) → Option (List api_Span)
  | 0, _, _ => none
  | n + 1, x158, l161 => fold_speeds_united_B2 y9 (fold_speeds_united_L2 y9 n) x158 l161

def fold_speeds_united (F : Nat) (p0 : (List api_Span)) : Option (List api_Span) :=
  (slices_Clone_fold_speeds_api_Span F p0).bind fun y5 =>
  (slices_SortFunc100 F y5).bind fun y9 =>
  fold_speeds_united_L2 y9 F 0 ([])

def fold_row_K1 (l97 : (List (List api_Span))) : Option ((List (List api_Span)) × Int) :=
  some (l97, 0)

def fold_row_B2 (F : Nat) (p0 : (List (List api_Span))) (k2 : (Int → (List (List api_Span)) → Option ((List (List api_Span)) × Int))) (x159 : Int) (l162 : (List (List api_Span))) : Option ((List (List api_Span)) × Int) :=
  bif (decide (x159 < ((p0.length : Nat) : Int))) then ((getI p0 x159).bind fun u167 =>
  (fold_checked F u167 true).bind fun y174 =>
  bif (y174 != 0) then (some (([] : (List (List api_Span))), y174)) else ((fold_speeds_united F u167).bind fun y176 =>
  (apd 24 l162 ([y176])).bind fun l185 =>
  (ck (x159 + 1)).bind fun x190 =>
  k2 x190 l185)) else (fold_row_K1 l162)

def fold_row_L2 (F : Nat) (p0 : (List (List api_Span))) : Nat → Int → (List (List api_Span)) → Option ((List (List api_Span)) × Int)
  | 0, _, _ => none
  | n + 1, x159, l162 => fold_row_B2 F p0 (fold_row_L2 F p0 n) x159 l162

def fold_row (F : Nat) (p0 : (List (List api_Span))) : Option ((List (List api_Span)) × Int) :=
  bif (decide (((p0.length : Nat) : Int) > 200)) then (some (([] : (List (List api_Span))), 9)) else (fold_row_L2 F p0 F 0 ([]))

def fold_limited (p0 : Int) (p1 : Int) : Int :=
  bif (bif (bif (bif (decide (p0 < 0)) then true else (decide (p0 > 400000))) then true else (decide (p1 < 1))) then true else (decide (p1 > 16))) then (3) else (0)

def fold_known_K1 (l97 : (List Int)) : Option (List Int) :=
  some l97

def fold_known_K3 (x160 : Int) (k2 : ((List Int) → Int → Option (List Int))) (l175 : (List Int)) : Option (List Int) :=
  (ck (x160 + 1)).bind fun x176 =>
  k2 l175 x176

def fold_known_B2 (p0 : (List (List api_Span))) (k2 : ((List Int) → Int → Option (List Int))) (l159 : (List Int)) (x160 : Int) : Option (List Int) :=
  bif (decide (x160 < ((p0.length : Nat) : Int))) then ((getI p0 x160).bind fun u178 =>
  bif (decide (((u178.length : Nat) : Int) > 0)) then ((apd 8 l159 ([x160])).bind fun l186 =>
  fold_known_K3 x160 k2 l186) else (fold_known_K3 x160 k2 l159)) else (fold_known_K1 l159)

def fold_known_L2 (p0 : (List (List api_Span))) : Nat → (List Int) → Int → Option (List Int)
  | 0, _, _ => none
  | n + 1, l159, x160 => fold_known_B2 p0 (fold_known_L2 p0 n) l159 x160

def fold_known (F : Nat) (p0 : (List (List api_Span))) : Option (List Int) :=
  fold_known_L2 p0 F ([]) 0

def fold_speeds_meet_K1 (F : Nat) (l158 : (List api_Span)) : Option (List api_Span) :=
  (fold_speeds_united F l158).bind fun y160 =>
  some y160

def fold_speeds_meet_K3 (p0 : (List api_Span)) (p1 : (List api_Span)) (x264 : Int) (x265 : Int) (k2 : ((List api_Span) → Int → Int → Option (List api_Span))) (l288 : (List api_Span)) : Option (List api_Span) :=
  (getI p0 x264).bind fun u289 =>
  (getI p1 x265).bind fun u290 =>
  bif (decide (u289.Hi < u290.Hi)) then ((ck (x264 + 1)).bind fun x291 =>
  k2 l288 x291 x265) else ((ck (x265 + 1)).bind fun x292 =>
  k2 l288 x264 x292)

def fold_speeds_meet_B2 (F : Nat) (p0 : (List api_Span)) (p1 : (List api_Span)) (k2 : ((List api_Span) → Int → Int → Option (List api_Span))) (l263 : (List api_Span)) (x264 : Int) (x265 : Int) : Option (List api_Span) :=
  bif (bif (decide (x264 < ((p0.length : Nat) : Int))) then (decide (x265 < ((p1.length : Nat) : Int))) else false) then ((getI p0 x264).bind fun u294 =>
  (getI p1 x265).bind fun u295 =>
  bif ((fold_common u294 u295).2) then ((apd 16 l263 ([(api_Span.mk (((fold_common u294 u295).1).Lo) (((fold_common u294 u295).1).Hi))])).bind fun l310 =>
  fold_speeds_meet_K3 p0 p1 x264 x265 k2 l310) else (fold_speeds_meet_K3 p0 p1 x264 x265 k2 l263)) else (fold_speeds_meet_K1 F l263)

def fold_speeds_meet_L2 (F : Nat) (p0 : (List api_Span)) (p1 : (List api_Span)) : Nat → (List api_Span) → Int → Int → Option (List api_Span)
  | 0, _, _, _ => none
  | n + 1, l263, x264, x265 => fold_speeds_meet_B2 F p0 p1 (fold_speeds_meet_L2 F p0 p1 n) l263 x264 x265

def fold_speeds_meet (F : Nat) (p0 : (List api_Span)) (p1 : (List api_Span)) : Option (List api_Span) :=
  fold_speeds_meet_L2 F p0 p1 F ([]) 0 0

def fold_speeds_wide_K1 (F : Nat) (l42 : (List api_Span)) : Option (List api_Span) :=
  (fold_speeds_united F l42).bind fun y44 =>
  some y44

def fold_speeds_wide_B2 (F : Nat) (p0 : (List api_Span)) (p1 : Int) (k2 : (Int → (List api_Span) → Option (List api_Span))) (x70 : Int) (l73 : (List api_Span)) : Option (List api_Span) :=
  bif (decide (x70 < ((p0.length : Nat) : Int))) then ((getI p0 x70).bind fun u75 =>
  (ck (u75.Lo - p1)).bind fun x77 =>
  (ck (u75.Hi + p1)).bind fun x78 =>
  (apd 16 l73 ([(api_Span.mk x77 x78)])).bind fun l80 =>
  (ck (x70 + 1)).bind fun x83 =>
  k2 x83 l80) else (fold_speeds_wide_K1 F l73)

def fold_speeds_wide_L2 (F : Nat) (p0 : (List api_Span)) (p1 : Int) : Nat → Int → (List api_Span) → Option (List api_Span)
  | 0, _, _ => none
  | n + 1, x70, l73 => fold_speeds_wide_B2 F p0 p1 (fold_speeds_wide_L2 F p0 p1 n) x70 l73

def fold_speeds_wide (F : Nat) (p0 : (List api_Span)) (p1 : Int) : Option (List api_Span) :=
  fold_speeds_wide_L2 F p0 p1 F 0 ([])

def fold_speeds_near (F : Nat) (p0 : (List api_Span)) (p1 : (List api_Span)) (p2 : Int) : Option (List api_Span) :=
  (fold_speeds_wide F p1 p2).bind fun y8 =>
  (fold_speeds_meet F p0 y8).bind fun y12 =>
  some y12

def fold_Ray_1 (F : Nat) (p0 : Int) (p1 : Int) (c0_ : (List Int)) (c1_ : Int) (c2_ : (List (List api_Span))) (c3_ : Int) : Option (List (List api_Span)) :=
  (getI c0_ p0).bind fun u8 =>
  (getI c0_ p1).bind fun u9 =>
  (ck (u8 - u9)).bind fun x10 =>
  (getI c0_ p1).bind fun u11 =>
  (getI c0_ p0).bind fun u12 =>
  (ck (u11 - u12)).bind fun x13 =>
  bif (decide ((if x13 > x10 then x13 else x10) ≤ c1_)) then ((getI c0_ p1).bind fun u14 =>
  (getI c0_ p1).bind fun u15 =>
  (getI c2_ u15).bind fun u16 =>
  (getI c0_ p0).bind fun u23 =>
  (getI c2_ u23).bind fun u24 =>
  (ck (c3_ * (if x13 > x10 then x13 else x10))).bind fun x31 =>
  (fold_speeds_near F u16 u24 x31).bind fun y33 =>
  (getI c2_ u14).bind fun u36 =>
  (setI c2_ u14 y33).bind fun l90 =>
  some l90) else (some c2_)

def fold_back_K1 (l94 : (List (List api_Span))) : Option (List (List api_Span)) :=
  some l94

def fold_back_B2 (F : Nat) (p0 : (List (List api_Span))) (k2 : ((List (List api_Span)) → Int → Option (List (List api_Span)))) (l156 : (List (List api_Span))) (x159 : Int) : Option (List (List api_Span)) :=
  bif (decide (x159 < ((p0.length : Nat) : Int))) then ((getI p0 x159).bind fun u162 =>
  (slices_Clone_fold_speeds_api_Span F u162).bind fun y170 =>
  (apd 24 l156 ([y170])).bind fun l179 =>
  (ck (x159 + 1)).bind fun x184 =>
  k2 l179 x184) else (fold_back_K1 l156)

def fold_back_L2 (F : Nat) (p0 : (List (List api_Span))) : Nat → (List (List api_Span)) → Int → Option (List (List api_Span))
  | 0, _, _ => none
  | n + 1, l156, x159 => fold_back_B2 F p0 (fold_back_L2 F p0 n) l156 x159

def fold_back (F : Nat) (p0 : (List (List api_Span))) : Option (List (List api_Span)) :=
  fold_back_L2 F p0 F ([]) 0

def fold_Ray_K3 (F : Nat) (l137 : (List (List api_Span))) : Option ((List (List api_Span)) × Int) :=
  (fold_back F l137).bind fun y146 =>
  some (y146, 0)

def fold_Ray_B4 (F : Nat) (p1 : Int) (p2 : Int) (y18 : (List Int)) (k4 : ((List (List api_Span)) → Int → Option ((List (List api_Span)) × Int))) (l184 : (List (List api_Span))) (x187 : Int) : Option ((List (List api_Span)) × Int) :=
  bif (decide (x187 > 0)) then ((ck (x187 - 1)).bind fun x190 =>
  (fold_Ray_1 F x187 x190 y18 p2 l184 p1).bind fun y191 =>
  (ck (x187 - 1)).bind fun x198 =>
  k4 y191 x198) else (fold_Ray_K3 F l184)

def fold_Ray_L4 (F : Nat) (p1 : Int) (p2 : Int) (y18 : (List Int)) : Nat → (List (List api_Span)) → Int → Option ((List (List api_Span)) × Int)
  | 0, _, _ => none
  | n + 1, l184, x187 => fold_Ray_B4 F p1 p2 y18 (fold_Ray_L4 F p1 p2 y18 n) l184 x187

def fold_Ray_K2 (F : Nat) (p1 : Int) (p2 : Int) (y18 : (List Int)) (l85 : (List (List api_Span))) : Option ((List (List api_Span)) × Int) :=
  (ck (((y18.length : Nat) : Int) - 1)).bind fun x154 =>
  fold_Ray_L4 F p1 p2 y18 F l85 x154

def fold_Ray_B5 (F : Nat) (p1 : Int) (p2 : Int) (y18 : (List Int)) (k5 : ((List (List api_Span)) → Int → Option ((List (List api_Span)) × Int))) (l229 : (List (List api_Span))) (x232 : Int) : Option ((List (List api_Span)) × Int) :=
  bif (decide (x232 < ((y18.length : Nat) : Int))) then ((ck (x232 - 1)).bind fun x235 =>
  (fold_Ray_1 F x235 x232 y18 p2 l229 p1).bind fun y236 =>
  (ck (x232 + 1)).bind fun x243 =>
  k5 y236 x243) else (fold_Ray_K2 F p1 p2 y18 l229)

def fold_Ray_L5 (F : Nat) (p1 : Int) (p2 : Int) (y18 : (List Int)) : Nat → (List (List api_Span)) → Int → Option ((List (List api_Span)) × Int)
  | 0, _, _ => none
  | n + 1, l229, x232 => fold_Ray_B5 F p1 p2 y18 (fold_Ray_L5 F p1 p2 y18 n) l229 x232

def fold_Ray_K1 (F : Nat) (p1 : Int) (p2 : Int) (y8 : ((List (List api_Span)) × Int)) (x16 : Int) : Option ((List (List api_Span)) × Int) :=
  bif (x16 != 0) then (some (([] : (List (List api_Span))), x16)) else ((fold_known F y8.1).bind fun y18 =>
  fold_Ray_L5 F p1 p2 y18 F y8.1 1)

def fold_Ray (F : Nat) (p0 : (List (List api_Span))) (p1 : Int) (p2 : Int) : Option ((List (List api_Span)) × Int) :=
  (fold_row F p0).bind fun y8 =>
  bif (y8.2 == 0) then (fold_Ray_K1 F p1 p2 y8 (fold_limited p1 p2)) else (fold_Ray_K1 F p1 p2 y8 y8.2)

def law03_span (p0 : Int) (p1 : Int) : api_Span :=
  (api_Span.mk p0 p1)

def ref03_united_K1 (l1310 : (List api_Span)) : Option (List api_Span) :=
  some l1310

def ref03_united_K5 (l2178 : (List api_Span)) (k2 : ((List api_Span) → (List api_Span) → Option (List api_Span))) (x2216 : Int) (x2334 : Int) (l2397 : (List api_Span)) : Option (List api_Span) :=
  (apd 16 l2178 ([(api_Span.mk x2216 x2334)])).bind fun l2399 =>
  k2 l2399 l2397

def ref03_united_K7 (x2441 : Int) (k6 : (Int → (List api_Span) → Option (List api_Span))) (l2454 : (List api_Span)) : Option (List api_Span) :=
  (ck (x2441 + 1)).bind fun x2455 =>
  k6 x2455 l2454

def ref03_united_B6 (l2178 : (List api_Span)) (l2181 : (List api_Span)) (k2 : ((List api_Span) → (List api_Span) → Option (List api_Span))) (x2216 : Int) (x2334 : Int) (k6 : (Int → (List api_Span) → Option (List api_Span))) (x2441 : Int) (l2444 : (List api_Span)) : Option (List api_Span) :=
  bif (decide (x2441 < ((l2181.length : Nat) : Int))) then ((getI l2181 x2441).bind fun u2457 =>
  bif (decide (u2457.Lo > x2334)) then ((getI l2181 x2441).bind fun u2458 =>
  (apd 16 l2444 ([u2458])).bind fun l2460 =>
  ref03_united_K7 x2441 k6 l2460) else (ref03_united_K7 x2441 k6 l2444)) else (ref03_united_K5 l2178 k2 x2216 x2334 l2444)

def ref03_united_L6 (l2178 : (List api_Span)) (l2181 : (List api_Span)) (k2 : ((List api_Span) → (List api_Span) → Option (List api_Span))) (x2216 : Int) (x2334 : Int) : Nat → Int → (List api_Span) → Option (List api_Span)
  | 0, _, _ => none
  | n + 1, x2441, l2444 => ref03_united_B6 l2178 l2181 k2 x2216 x2334 (ref03_united_L6 l2178 l2181 k2 x2216 x2334 n) x2441 l2444

def ref03_united_K4 (F : Nat) (l2178 : (List api_Span)) (l2181 : (List api_Span)) (k2 : ((List api_Span) → (List api_Span) → Option (List api_Span))) (x2216 : Int) (x2334 : Int) : Option (List api_Span) :=
  ref03_united_L6 l2178 l2181 k2 x2216 x2334 F 0 ([])

def ref03_united_K10 (x2568 : Int) (k9 : (Int → Bool → Int → Option (List api_Span))) (x2573 : Int) (c2574 : Bool) : Option (List api_Span) :=
  (ck (x2568 + 1)).bind fun x2575 =>
  k9 x2573 c2574 x2575

def ref03_united_B9 (l2181 : (List api_Span)) (k8 : (Int → Bool → Option (List api_Span))) (k9 : (Int → Bool → Int → Option (List api_Span))) (x2566 : Int) (c2567 : Bool) (x2568 : Int) : Option (List api_Span) :=
  bif (decide (x2568 < ((l2181.length : Nat) : Int))) then ((getI l2181 x2568).bind fun u2577 =>
  (gd (((decide (u2577.Lo ≤ x2566)) == true && true)) (getI l2181 x2568) default).bind fun u2578 =>
  bif (bif (decide (u2577.Lo ≤ x2566)) then (decide (u2578.Hi > x2566)) else false) then ((getI l2181 x2568).bind fun u2579 =>
  ref03_united_K10 x2568 k9 u2579.Hi true) else (ref03_united_K10 x2568 k9 x2566 c2567)) else (k8 x2566 c2567)

def ref03_united_L9 (l2181 : (List api_Span)) (k8 : (Int → Bool → Option (List api_Span))) : Nat → Int → Bool → Int → Option (List api_Span)
  | 0, _, _, _ => none
  | n + 1, x2566, c2567, x2568 => ref03_united_B9 l2181 k8 (ref03_united_L9 l2181 k8 n) x2566 c2567 x2568

def ref03_united_B8 (F : Nat) (l2178 : (List api_Span)) (l2181 : (List api_Span)) (k2 : ((List api_Span) → (List api_Span) → Option (List api_Span))) (x2216 : Int) (k8 : (Int → Bool → Option (List api_Span))) (x2540 : Int) (c2541 : Bool) : Option (List api_Span) :=
  bif c2541 then (ref03_united_L9 l2181 k8 F x2540 false 0) else (ref03_united_K4 F l2178 l2181 k2 x2216 x2540)

def ref03_united_L8 (F : Nat) (l2178 : (List api_Span)) (l2181 : (List api_Span)) (k2 : ((List api_Span) → (List api_Span) → Option (List api_Span))) (x2216 : Int) : Nat → Int → Bool → Option (List api_Span)
  | 0, _, _ => none
  | n + 1, x2540, c2541 => ref03_united_B8 F l2178 l2181 k2 x2216 (ref03_united_L8 F l2178 l2181 k2 x2216 n) x2540 c2541

def ref03_united_K3 (F : Nat) (l2178 : (List api_Span)) (l2181 : (List api_Span)) (k2 : ((List api_Span) → (List api_Span) → Option (List api_Span))) (x2216 : Int) (x2217 : Int) : Option (List api_Span) :=
  ref03_united_L8 F l2178 l2181 k2 x2216 F x2217 true

def ref03_united_K12 (x2602 : Int) (k11 : (Int → Int → Int → Option (List api_Span))) (x2606 : Int) (x2607 : Int) : Option (List api_Span) :=
  (ck (x2602 + 1)).bind fun x2608 =>
  k11 x2606 x2607 x2608

def ref03_united_B11 (F : Nat) (l2178 : (List api_Span)) (l2181 : (List api_Span)) (k2 : ((List api_Span) → (List api_Span) → Option (List api_Span))) (k11 : (Int → Int → Int → Option (List api_Span))) (x2600 : Int) (x2601 : Int) (x2602 : Int) : Option (List api_Span) :=
  bif (decide (x2602 < ((l2181.length : Nat) : Int))) then ((getI l2181 x2602).bind fun u2610 =>
  bif (decide (u2610.Lo < x2600)) then ((getI l2181 x2602).bind fun u2611 =>
  ref03_united_K12 x2602 k11 u2611.Lo u2611.Hi) else (ref03_united_K12 x2602 k11 x2600 x2601)) else (ref03_united_K3 F l2178 l2181 k2 x2600 x2601)

def ref03_united_L11 (F : Nat) (l2178 : (List api_Span)) (l2181 : (List api_Span)) (k2 : ((List api_Span) → (List api_Span) → Option (List api_Span))) : Nat → Int → Int → Int → Option (List api_Span)
  | 0, _, _, _ => none
  | n + 1, x2600, x2601, x2602 => ref03_united_B11 F l2178 l2181 k2 (ref03_united_L11 F l2178 l2181 k2 n) x2600 x2601 x2602

def ref03_united_B2 (F : Nat) (k2 : ((List api_Span) → (List api_Span) → Option (List api_Span))) (l2178 : (List api_Span)) (l2181 : (List api_Span)) : Option (List api_Span) :=
  bif (decide (((l2181.length : Nat) : Int) > 0)) then ((getI l2181 0).bind fun u2183 =>
  ref03_united_L11 F l2178 l2181 k2 F u2183.Lo u2183.Hi 0) else (ref03_united_K1 l2178)

def ref03_united_L2 (F : Nat) : Nat → (List api_Span) → (List api_Span) → Option (List api_Span)
  | 0, _, _ => none
  | n + 1, l2178, l2181 => ref03_united_B2 F (ref03_united_L2 F n) l2178 l2181

def ref03_united (F : Nat) (p0 : (List api_Span)) : Option (List api_Span) :=
  (apd 16 ([] : List api_Span) p0).bind fun l5 =>
  ref03_united_L2 F F ([]) l5

def ref03_Next_K1 : Option Int :=
  some (-1)

def ref03_Next_B2 (p0 : (List (List api_Span))) (p1 : Int) (p2 : Int) (k2 : (Int → Option Int)) (x97 : Int) : Option Int :=
  (gd (((decide (x97 < ((p0.length : Nat) : Int))) == true && true)) (ck (x97 - p1)) 0).bind fun x99 =>
  bif (bif (decide (x97 < ((p0.length : Nat) : Int))) then (decide (x99 ≤ p2)) else false) then ((getI p0 p1).bind fun u101 =>
  bif (decide (((u101.length : Nat) : Int) > 0)) then ((getI p0 x97).bind fun u108 =>
  bif (decide (((u108.length : Nat) : Int) > 0)) then (some x97) else ((ck (x97 + 1)).bind fun x115 =>
  k2 x115)) else (ref03_Next_K1)) else (ref03_Next_K1)

def ref03_Next_L2 (p0 : (List (List api_Span))) (p1 : Int) (p2 : Int) : Nat → Int → Option Int
  | 0, _ => none
  | n + 1, x97 => ref03_Next_B2 p0 p1 p2 (ref03_Next_L2 p0 p1 p2 n) x97

def ref03_Next (F : Nat) (p0 : (List (List api_Span))) (p1 : Int) (p2 : Int) : Option Int :=
  (ck (p1 + 1)).bind fun x61 =>
  ref03_Next_L2 p0 p1 p2 F x61

def ref03_meet_K1 (F : Nat) (l861 : (List api_Span)) : Option (List api_Span) :=
  (ref03_united F l861).bind fun y863 =>
  some y863

def ref03_meet_K3 (x1436 : Int) (k2 : ((List api_Span) → Int → Option (List api_Span))) (l1578 : (List api_Span)) : Option (List api_Span) :=
  (ck (x1436 + 1)).bind fun x1579 =>
  k2 l1578 x1579

def ref03_meet_K5 (x1674 : Int) (k4 : ((List api_Span) → Int → Option (List api_Span))) (l1697 : (List api_Span)) : Option (List api_Span) :=
  (ck (x1674 + 1)).bind fun x1698 =>
  k4 l1697 x1698

def ref03_meet_B4 (p0 : (List api_Span)) (p1 : (List api_Span)) (x1436 : Int) (k2 : ((List api_Span) → Int → Option (List api_Span))) (k4 : ((List api_Span) → Int → Option (List api_Span))) (l1673 : (List api_Span)) (x1674 : Int) : Option (List api_Span) :=
  bif (decide (x1674 < ((p1.length : Nat) : Int))) then ((getI p0 x1436).bind fun u1700 =>
  (getI p1 x1674).bind fun u1701 =>
  bif ((ref03_common u1700 u1701).2) then ((apd 16 l1673 ([(api_Span.mk (((ref03_common u1700 u1701).1).Lo) (((ref03_common u1700 u1701).1).Hi))])).bind fun l1716 =>
  ref03_meet_K5 x1674 k4 l1716) else (ref03_meet_K5 x1674 k4 l1673)) else (ref03_meet_K3 x1436 k2 l1673)

def ref03_meet_L4 (p0 : (List api_Span)) (p1 : (List api_Span)) (x1436 : Int) (k2 : ((List api_Span) → Int → Option (List api_Span))) : Nat → (List api_Span) → Int → Option (List api_Span)
  | 0, _, _ => none
  | n + 1, l1673, x1674 => ref03_meet_B4 p0 p1 x1436 k2 (ref03_meet_L4 p0 p1 x1436 k2 n) l1673 x1674

def ref03_meet_B2 (F : Nat) (p0 : (List api_Span)) (p1 : (List api_Span)) (k2 : ((List api_Span) → Int → Option (List api_Span))) (l1435 : (List api_Span)) (x1436 : Int) : Option (List api_Span) :=
  bif (decide (x1436 < ((p0.length : Nat) : Int))) then (ref03_meet_L4 p0 p1 x1436 k2 F l1435 0) else (ref03_meet_K1 F l1435)

def ref03_meet_L2 (F : Nat) (p0 : (List api_Span)) (p1 : (List api_Span)) : Nat → (List api_Span) → Int → Option (List api_Span)
  | 0, _, _ => none
  | n + 1, l1435, x1436 => ref03_meet_B2 F p0 p1 (ref03_meet_L2 F p0 p1 n) l1435 x1436

def ref03_meet (F : Nat) (p0 : (List api_Span)) (p1 : (List api_Span)) : Option (List api_Span) :=
  ref03_meet_L2 F p0 p1 F ([]) 0

def ref03_wide_K1 (F : Nat) (l51 : (List api_Span)) : Option (List api_Span) :=
  (ref03_united F l51).bind fun y53 =>
  some y53

def ref03_wide_B2 (F : Nat) (p0 : (List api_Span)) (p1 : Int) (k2 : ((List api_Span) → Int → Option (List api_Span))) (l87 : (List api_Span)) (x88 : Int) : Option (List api_Span) :=
  bif (decide (x88 < ((p0.length : Nat) : Int))) then ((getI p0 x88).bind fun u90 =>
  (ck (u90.Lo - p1)).bind fun x91 =>
  (getI p0 x88).bind fun u92 =>
  (ck (u92.Hi + p1)).bind fun x93 =>
  (apd 16 l87 ([(api_Span.mk x91 x93)])).bind fun l98 =>
  (ck (x88 + 1)).bind fun x101 =>
  k2 l98 x101) else (ref03_wide_K1 F l87)

def ref03_wide_L2 (F : Nat) (p0 : (List api_Span)) (p1 : Int) : Nat → (List api_Span) → Int → Option (List api_Span)
  | 0, _, _ => none
  | n + 1, l87, x88 => ref03_wide_B2 F p0 p1 (ref03_wide_L2 F p0 p1 n) l87 x88

def ref03_wide (F : Nat) (p0 : (List api_Span)) (p1 : Int) : Option (List api_Span) :=
  ref03_wide_L2 F p0 p1 F ([]) 0

def ref03_Ray_K5 (l1858 : (List (List api_Span))) : Option ((List (List api_Span)) × Int) :=
  some (l1858, 0)

def ref03_Ray_B6 (F : Nat) (p0 : (List (List api_Span))) (l1035 : (List (List api_Span))) (l1615 : (List (List api_Span))) (k6 : ((List (List api_Span)) → Int → Option ((List (List api_Span)) × Int))) (l2020 : (List (List api_Span))) (x2023 : Int) : Option ((List (List api_Span)) × Int) :=
  bif (decide (x2023 < ((p0.length : Nat) : Int))) then ((getI l1035 x2023).bind fun u2026 =>
  (getI l1615 x2023).bind fun u2033 =>
  (ref03_meet F u2026 u2033).bind fun y2041 =>
  (apd 24 l2020 ([y2041])).bind fun l2093 =>
  (ck (x2023 + 1)).bind fun x2098 =>
  k6 l2093 x2098) else (ref03_Ray_K5 l2020)

def ref03_Ray_L6 (F : Nat) (p0 : (List (List api_Span))) (l1035 : (List (List api_Span))) (l1615 : (List (List api_Span))) : Nat → (List (List api_Span)) → Int → Option ((List (List api_Span)) × Int)
  | 0, _, _ => none
  | n + 1, l2020, x2023 => ref03_Ray_B6 F p0 l1035 l1615 (ref03_Ray_L6 F p0 l1035 l1615 n) l2020 x2023

def ref03_Ray_K4 (F : Nat) (p0 : (List (List api_Span))) (l1035 : (List (List api_Span))) (l1615 : (List (List api_Span))) : Option ((List (List api_Span)) × Int) :=
  ref03_Ray_L6 F p0 l1035 l1615 F ([]) 0

def ref03_Ray_K8 (x2485 : Int) (k7 : ((List (List api_Span)) → Int → Option ((List (List api_Span)) × Int))) (l2579 : (List (List api_Span))) : Option ((List (List api_Span)) × Int) :=
  (ck (x2485 - 1)).bind fun x2583 =>
  k7 l2579 x2583

def ref03_Ray_B7 (F : Nat) (p0 : (List (List api_Span))) (p1 : Int) (p2 : Int) (l1035 : (List (List api_Span))) (k7 : ((List (List api_Span)) → Int → Option ((List (List api_Span)) × Int))) (l2482 : (List (List api_Span))) (x2485 : Int) : Option ((List (List api_Span)) × Int) :=
  bif (decide (x2485 ≥ 0)) then ((ref03_Next F p0 x2485 p2).bind fun y2585 =>
  bif (decide (y2585 ≥ 0)) then ((getI p0 x2485).bind fun u2586 =>
  (getI l2482 y2585).bind fun u2593 =>
  (ck (y2585 - x2485)).bind fun x2600 =>
  (ck (p1 * x2600)).bind fun x2601 =>
  (ref03_wide F u2593 x2601).bind fun y2603 =>
  (ref03_meet F u2586 y2603).bind fun y2607 =>
  (getI l2482 x2485).bind fun u2610 =>
  (setI l2482 x2485 y2607).bind fun l2670 =>
  ref03_Ray_K8 x2485 k7 l2670) else (ref03_Ray_K8 x2485 k7 l2482)) else (ref03_Ray_K4 F p0 l1035 l2482)

def ref03_Ray_L7 (F : Nat) (p0 : (List (List api_Span))) (p1 : Int) (p2 : Int) (l1035 : (List (List api_Span))) : Nat → (List (List api_Span)) → Int → Option ((List (List api_Span)) × Int)
  | 0, _, _ => none
  | n + 1, l2482, x2485 => ref03_Ray_B7 F p0 p1 p2 l1035 (ref03_Ray_L7 F p0 p1 p2 l1035 n) l2482 x2485

def ref03_Ray_K3 (F : Nat) (p0 : (List (List api_Span))) (p1 : Int) (p2 : Int) (l451 : (List (List api_Span))) (l1035 : (List (List api_Span))) : Option ((List (List api_Span)) × Int) :=
  (ck (((p0.length : Nat) : Int) - 1)).bind fun x2100 =>
  ref03_Ray_L7 F p0 p1 p2 l1035 F l451 x2100

def ref03_Ray_K10 (x3053 : Int) (k9 : (Int → (List (List api_Span)) → Option ((List (List api_Span)) × Int))) (l3152 : (List (List api_Span))) : Option ((List (List api_Span)) × Int) :=
  (ck (x3053 + 1)).bind fun x3156 =>
  k9 x3156 l3152

def ref03_Ray_B9 (F : Nat) (p0 : (List (List api_Span))) (p1 : Int) (p2 : Int) (l451 : (List (List api_Span))) (k9 : (Int → (List (List api_Span)) → Option ((List (List api_Span)) × Int))) (x3053 : Int) (l3056 : (List (List api_Span))) : Option ((List (List api_Span)) × Int) :=
  bif (decide (x3053 < ((p0.length : Nat) : Int))) then ((ref03_Next F p0 x3053 p2).bind fun y3158 =>
  bif (decide (y3158 ≥ 0)) then ((getI p0 y3158).bind fun u3159 =>
  (getI l3056 x3053).bind fun u3166 =>
  (ck (y3158 - x3053)).bind fun x3173 =>
  (ck (p1 * x3173)).bind fun x3174 =>
  (ref03_wide F u3166 x3174).bind fun y3176 =>
  (ref03_meet F u3159 y3176).bind fun y3180 =>
  (getI l3056 y3158).bind fun u3183 =>
  (setI l3056 y3158 y3180).bind fun l3243 =>
  ref03_Ray_K10 x3053 k9 l3243) else (ref03_Ray_K10 x3053 k9 l3056)) else (ref03_Ray_K3 F p0 p1 p2 l451 l3056)

def ref03_Ray_L9 (F : Nat) (p0 : (List (List api_Span))) (p1 : Int) (p2 : Int) (l451 : (List (List api_Span))) : Nat → Int → (List (List api_Span)) → Option ((List (List api_Span)) × Int)
  | 0, _, _ => none
  | n + 1, x3053, l3056 => ref03_Ray_B9 F p0 p1 p2 l451 (ref03_Ray_L9 F p0 p1 p2 l451 n) x3053 l3056

def ref03_Ray_K2 (F : Nat) (p0 : (List (List api_Span))) (p1 : Int) (p2 : Int) (l451 : (List (List api_Span))) (l456 : (List (List api_Span))) : Option ((List (List api_Span)) × Int) :=
  ref03_Ray_L9 F p0 p1 p2 l451 F 0 l456

def ref03_Ray_B11 (F : Nat) (p0 : (List (List api_Span))) (p1 : Int) (p2 : Int) (k11 : ((List (List api_Span)) → Int → (List (List api_Span)) → Option ((List (List api_Span)) × Int))) (l3511 : (List (List api_Span))) (x3514 : Int) (l3517 : (List (List api_Span))) : Option ((List (List api_Span)) × Int) :=
  bif (decide (x3514 < ((p0.length : Nat) : Int))) then ((getI p0 x3514).bind fun u3522 =>
  (getI p0 x3514).bind fun u3529 =>
  (ref03_united F u3522).bind fun y3537 =>
  (ref03_united F u3529).bind fun y3541 =>
  (getI l3517 x3514).bind fun u3544 =>
  (setI l3517 x3514 y3537).bind fun l3555 =>
  (getI l3511 x3514).bind fun u3558 =>
  (setI l3511 x3514 y3541).bind fun l3642 =>
  (ck (x3514 + 1)).bind fun x3645 =>
  k11 l3642 x3645 l3555) else (ref03_Ray_K2 F p0 p1 p2 l3511 l3517)

def ref03_Ray_L11 (F : Nat) (p0 : (List (List api_Span))) (p1 : Int) (p2 : Int) : Nat → (List (List api_Span)) → Int → (List (List api_Span)) → Option ((List (List api_Span)) × Int)
  | 0, _, _, _ => none
  | n + 1, l3511, x3514, l3517 => ref03_Ray_B11 F p0 p1 p2 (ref03_Ray_L11 F p0 p1 p2 n) l3511 x3514 l3517

def ref03_Ray_K1 (F : Nat) (p0 : (List (List api_Span))) (p1 : Int) (p2 : Int) (x6 : Int) : Option ((List (List api_Span)) × Int) :=
  bif (x6 != 0) then (some (([] : (List (List api_Span))), x6)) else ((mkI 24 ((p0.length : Nat) : Int) ([] : (List api_Span))).bind fun l8 =>
  (mkI 24 ((p0.length : Nat) : Int) ([] : (List api_Span))).bind fun l12 =>
  ref03_Ray_L11 F p0 p1 p2 F l12 0 l8)

def law03_made_K1 (l1804 : (List (List api_Span))) : Option (List (List api_Span)) :=
  some l1804

def law03_made_K3 (x3004 : Int) (k2 : (Int → (List (List api_Span)) → Option (List (List api_Span)))) (l3307 : (List (List api_Span))) : Option (List (List api_Span)) :=
  (ck (x3004 + 1)).bind fun x3311 =>
  k2 x3311 l3307

def law03_made_K4 (x3004 : Int) (l3007 : (List (List api_Span))) (k2 : (Int → (List (List api_Span)) → Option (List (List api_Span)))) (l3457 : (List api_Span)) : Option (List (List api_Span)) :=
  (apd 24 l3007 ([l3457])).bind fun l3464 =>
  law03_made_K3 x3004 k2 l3464

def law03_made_K6 (x3555 : Int) (k5 : (Int → (List api_Span) → Int → Option (List (List api_Span)))) (l3582 : (List api_Span)) (x3583 : Int) : Option (List (List api_Span)) :=
  (ck (x3555 + 1)).bind fun x3584 =>
  k5 x3584 l3582 x3583

def law03_made_B5 (x3004 : Int) (l3007 : (List (List api_Span))) (k2 : (Int → (List (List api_Span)) → Option (List (List api_Span)))) (u3313 : (List Int)) (k5 : (Int → (List api_Span) → Int → Option (List (List api_Span)))) (x3555 : Int) (l3558 : (List api_Span)) (x3559 : Int) : Option (List (List api_Span)) :=
  bif (decide (x3555 < ((u3313.length : Nat) : Int))) then ((getI u3313 x3555).bind fun u3586 =>
  bif (decide (x3555 ≥ 6)) then (law03_made_K4 x3004 l3007 k2 l3558) else ((remC x3555 2).bind fun x3587 =>
  bif (x3587 == 0) then ((ck u3586).bind fun x3588 =>
  (remC x3588 12).bind fun x3589 =>
  (ck (1 + x3589)).bind fun x3590 =>
  (ck (x3559 + x3590)).bind fun x3591 =>
  (ck (x3591 - 20)).bind fun x3592 =>
  (ck (x3591 - 20)).bind fun x3593 =>
  (apd 16 l3558 ([(law03_span x3592 x3593)])).bind fun l3595 =>
  law03_made_K6 x3555 k5 l3595 x3591) else (bif (decide (((l3558.length : Nat) : Int) > 0)) then ((ck u3586).bind fun x3598 =>
  (remC x3598 8).bind fun x3599 =>
  (ck (x3559 + x3599)).bind fun x3600 =>
  (ck (((l3558.length : Nat) : Int) - 1)).bind fun x3601 =>
  (ck (x3600 - 20)).bind fun x3602 =>
  (getI l3558 x3601).bind fun u3603 =>
  (setI l3558 x3601 (api_Span.mk u3603.Lo x3602)).bind fun l3604 =>
  law03_made_K6 x3555 k5 l3604 x3600) else (law03_made_K6 x3555 k5 l3558 x3559)))) else (law03_made_K4 x3004 l3007 k2 l3558)

def law03_made_L5 (x3004 : Int) (l3007 : (List (List api_Span))) (k2 : (Int → (List (List api_Span)) → Option (List (List api_Span)))) (u3313 : (List Int)) : Nat → Int → (List api_Span) → Int → Option (List (List api_Span))
  | 0, _, _, _ => none
  | n + 1, x3555, l3558, x3559 => law03_made_B5 x3004 l3007 k2 u3313 (law03_made_L5 x3004 l3007 k2 u3313 n) x3555 l3558 x3559

def law03_made_B2 (F : Nat) (p0 : (List (List Int))) (k2 : (Int → (List (List api_Span)) → Option (List (List api_Span)))) (x3004 : Int) (l3007 : (List (List api_Span))) : Option (List (List api_Span)) :=
  bif (decide (x3004 < ((p0.length : Nat) : Int))) then ((getI p0 x3004).bind fun u3313 =>
  law03_made_L5 x3004 l3007 k2 u3313 F 0 ([]) 0) else (law03_made_K1 l3007)

def law03_made_L2 (F : Nat) (p0 : (List (List Int))) : Nat → Int → (List (List api_Span)) → Option (List (List api_Span))
  | 0, _, _ => none
  | n + 1, x3004, l3007 => law03_made_B2 F p0 (law03_made_L2 F p0 n) x3004 l3007

def law03_made (F : Nat) (p0 : (List (List Int))) : Option (List (List api_Span)) :=
  law03_made_L2 F p0 F 0 ([])

def law03_dots_K1 (v224 : (VecN Bool 80)) : Option (VecN Bool 80) :=
  some v224

def law03_dots_K3 (x371 : Int) (k2 : ((VecN Bool 80) → Int → Option (VecN Bool 80))) (v407 : (VecN Bool 80)) : Option (VecN Bool 80) :=
  (ck (x371 + 1)).bind fun x408 =>
  k2 v407 x408

def law03_dots_K5 (x433 : Int) (k4 : ((VecN Bool 80) → Int → Option (VecN Bool 80))) (v438 : (VecN Bool 80)) : Option (VecN Bool 80) :=
  (ck (x433 + 1)).bind fun x439 =>
  k4 v438 x439

def law03_dots_B4 (x371 : Int) (k2 : ((VecN Bool 80) → Int → Option (VecN Bool 80))) (u410 : api_Span) (k4 : ((VecN Bool 80) → Int → Option (VecN Bool 80))) (v432 : (VecN Bool 80)) (x433 : Int) : Option (VecN Bool 80) :=
  bif (bif (decide (x433 ≤ u410.Hi)) then (decide (x433 < 60)) else false) then (bif (decide (x433 ≥ (-20))) then ((ck (x433 - (-20))).bind fun x441 =>
  (getV v432 x441).bind fun u442 =>
  (setV v432 x441 true).bind fun l443 =>
  law03_dots_K5 x433 k4 l443) else (law03_dots_K5 x433 k4 v432)) else (law03_dots_K3 x371 k2 v432)

def law03_dots_L4 (x371 : Int) (k2 : ((VecN Bool 80) → Int → Option (VecN Bool 80))) (u410 : api_Span) : Nat → (VecN Bool 80) → Int → Option (VecN Bool 80)
  | 0, _, _ => none
  | n + 1, v432, x433 => law03_dots_B4 x371 k2 u410 (law03_dots_L4 x371 k2 u410 n) v432 x433

def law03_dots_B2 (F : Nat) (p0 : (List api_Span)) (k2 : ((VecN Bool 80) → Int → Option (VecN Bool 80))) (v370 : (VecN Bool 80)) (x371 : Int) : Option (VecN Bool 80) :=
  bif (decide (x371 < ((p0.length : Nat) : Int))) then ((getI p0 x371).bind fun u410 =>
  law03_dots_L4 x371 k2 u410 F v370 u410.Lo) else (law03_dots_K1 v370)

def law03_dots_L2 (F : Nat) (p0 : (List api_Span)) : Nat → (VecN Bool 80) → Int → Option (VecN Bool 80)
  | 0, _, _ => none
  | n + 1, v370, x371 => law03_dots_B2 F p0 (law03_dots_L2 F p0 n) v370 x371

def law03_dots (F : Nat) (p0 : (List api_Span)) : Option (VecN Bool 80) :=
  law03_dots_L2 F p0 F (default : VecN Bool 80) 0

def law03_beside_K1 (v181 : (VecN Bool 80)) : Option (VecN Bool 80) :=
  some v181

def law03_beside_K3 (x300 : Int) (k2 : ((VecN Bool 80) → Int → Option (VecN Bool 80))) (v329 : (VecN Bool 80)) : Option (VecN Bool 80) :=
  (ck (x300 + 1)).bind fun x330 =>
  k2 v329 x330

def law03_beside_B4 (p0 : (VecN Bool 80)) (p1 : (VecN Bool 80)) (p2 : Int) (x300 : Int) (k2 : ((VecN Bool 80) → Int → Option (VecN Bool 80))) (k4 : ((VecN Bool 80) → Int → Option (VecN Bool 80))) (v349 : (VecN Bool 80)) (x350 : Int) : Option (VecN Bool 80) :=
  (ck (x300 + p2)).bind fun x352 =>
  (gd (((bif (decide (x350 ≤ x352)) then (decide (x350 < 80)) else false) == true && true)) (getV p0 x300) default).bind fun u353 =>
  bif (bif (bif (decide (x350 ≤ x352)) then (decide (x350 < 80)) else false) then u353 else false) then ((getV v349 x300).bind fun u354 =>
  (gd ((u354 == false && true)) (getV p1 x350) default).bind fun u355 =>
  (getV v349 x300).bind fun u356 =>
  (setV v349 x300 (bif u354 then true else u355)).bind fun l357 =>
  (ck (x350 + 1)).bind fun x358 =>
  k4 l357 x358) else (law03_beside_K3 x300 k2 v349)

def law03_beside_L4 (p0 : (VecN Bool 80)) (p1 : (VecN Bool 80)) (p2 : Int) (x300 : Int) (k2 : ((VecN Bool 80) → Int → Option (VecN Bool 80))) : Nat → (VecN Bool 80) → Int → Option (VecN Bool 80)
  | 0, _, _ => none
  | n + 1, v349, x350 => law03_beside_B4 p0 p1 p2 x300 k2 (law03_beside_L4 p0 p1 p2 x300 k2 n) v349 x350

def law03_beside_B2 (F : Nat) (p0 : (VecN Bool 80)) (p1 : (VecN Bool 80)) (p2 : Int) (k2 : ((VecN Bool 80) → Int → Option (VecN Bool 80))) (v299 : (VecN Bool 80)) (x300 : Int) : Option (VecN Bool 80) :=
  bif (decide (x300 < 80)) then ((ck (x300 - p2)).bind fun x332 =>
  law03_beside_L4 p0 p1 p2 x300 k2 F v299 (if x332 > 0 then x332 else 0)) else (law03_beside_K1 v299)

def law03_beside_L2 (F : Nat) (p0 : (VecN Bool 80)) (p1 : (VecN Bool 80)) (p2 : Int) : Nat → (VecN Bool 80) → Int → Option (VecN Bool 80)
  | 0, _, _ => none
  | n + 1, v299, x300 => law03_beside_B2 F p0 p1 p2 (law03_beside_L2 F p0 p1 p2 n) v299 x300

def law03_beside (F : Nat) (p0 : (VecN Bool 80)) (p1 : (VecN Bool 80)) (p2 : Int) : Option (VecN Bool 80) :=
  law03_beside_L2 F p0 p1 p2 F (default : VecN Bool 80) 0

def law03_formed_K1 : Option Bool :=
  some true

def law03_formed_B2 (p0 : (List api_Span)) (p1 : (VecN Bool 80)) (k2 : (Int → Option Bool)) (x55 : Int) : Option Bool :=
  bif (decide (x55 < ((p0.length : Nat) : Int))) then ((getI p0 x55).bind fun u57 =>
  (gd (((decide (x55 > 0)) == true && ((decide (u57.Lo > u57.Hi)) == false && true))) (ck (x55 - 1)) 0).bind fun x59 =>
  (gd (((decide (x55 > 0)) == true && ((decide (u57.Lo > u57.Hi)) == false && true))) (getI p0 x59) default).bind fun u60 =>
  (gd (((bif (bif (bif (decide (u57.Lo > u57.Hi)) then true else (bif (decide (x55 > 0)) then (decide (u57.Lo ≤ u60.Hi)) else false)) then true else (decide (u57.Lo < (-20)))) then true else (decide (u57.Hi ≥ 60))) == false && true)) (ck (u57.Lo - (-20))) 0).bind fun x61 =>
  (gd (((bif (bif (bif (decide (u57.Lo > u57.Hi)) then true else (bif (decide (x55 > 0)) then (decide (u57.Lo ≤ u60.Hi)) else false)) then true else (decide (u57.Lo < (-20)))) then true else (decide (u57.Hi ≥ 60))) == false && true)) (getV p1 x61) default).bind fun u62 =>
  (gd (((bif (bif (bif (bif (decide (u57.Lo > u57.Hi)) then true else (bif (decide (x55 > 0)) then (decide (u57.Lo ≤ u60.Hi)) else false)) then true else (decide (u57.Lo < (-20)))) then true else (decide (u57.Hi ≥ 60))) then true else (!u62)) == false && true)) (ck (u57.Hi - (-20))) 0).bind fun x63 =>
  (gd (((bif (bif (bif (bif (decide (u57.Lo > u57.Hi)) then true else (bif (decide (x55 > 0)) then (decide (u57.Lo ≤ u60.Hi)) else false)) then true else (decide (u57.Lo < (-20)))) then true else (decide (u57.Hi ≥ 60))) then true else (!u62)) == false && true)) (getV p1 x63) default).bind fun u64 =>
  bif (bif (bif (bif (bif (bif (decide (u57.Lo > u57.Hi)) then true else (bif (decide (x55 > 0)) then (decide (u57.Lo ≤ u60.Hi)) else false)) then true else (decide (u57.Lo < (-20)))) then true else (decide (u57.Hi ≥ 60))) then true else (!u62)) then true else (!u64)) then (some false) else ((ck (x55 + 1)).bind fun x65 =>
  k2 x65)) else (law03_formed_K1)

def law03_formed_L2 (p0 : (List api_Span)) (p1 : (VecN Bool 80)) : Nat → Int → Option Bool
  | 0, _ => none
  | n + 1, x55 => law03_formed_B2 p0 p1 (law03_formed_L2 p0 p1 n) x55

def law03_formed (F : Nat) (p0 : (List api_Span)) (p1 : (VecN Bool 80)) : Option Bool :=
  law03_formed_L2 p0 p1 F 0

def law03_FoldCourses_K3 : Option Bool :=
  some law03_works

def law03_FoldCourses_K5 (x1362 : Int) (k4 : (Int → Option Bool)) : Option Bool :=
  (ck (x1362 + 1)).bind fun x1443 =>
  k4 x1443

def law03_FoldCourses_K6 (F : Nat) (y23 : ((List (List api_Span)) × Int)) (x1362 : Int) (k4 : (Int → Option Bool)) (v1470 : (VecN Bool 80)) : Option Bool :=
  (getI y23.1 x1362).bind fun u1471 =>
  (law03_dots F u1471).bind fun y1478 =>
  bif (!decide (y1478 = v1470)) then (bif (bif (!decide (y1478 = v1470)) then true else true) then (some false) else (law03_FoldCourses_K5 x1362 k4)) else ((getI y23.1 x1362).bind fun u1492 =>
  (law03_formed F u1492 v1470).bind fun y1499 =>
  bif (bif (!decide (y1478 = v1470)) then true else (!y1499)) then (some false) else (law03_FoldCourses_K5 x1362 k4))

def law03_FoldCourses_B7 (F : Nat) (y23 : ((List (List api_Span)) × Int)) (l556 : (List (VecN Bool 80))) (x1362 : Int) (k4 : (Int → Option Bool)) (k7 : ((VecN Bool 80) → Int → Option Bool)) (v1515 : (VecN Bool 80)) (x1516 : Int) : Option Bool :=
  bif (decide (x1516 < 80)) then ((getV v1515 x1516).bind fun u1518 =>
  (gd ((u1518 == true && true)) (getI l556 x1362) default).bind fun u1519 =>
  (gd ((u1518 == true && true)) (getV u1519 x1516) default).bind fun u1520 =>
  (getV v1515 x1516).bind fun u1521 =>
  (setV v1515 x1516 (bif u1518 then u1520 else false)).bind fun l1522 =>
  (ck (x1516 + 1)).bind fun x1523 =>
  k7 l1522 x1523) else (law03_FoldCourses_K6 F y23 x1362 k4 v1515)

def law03_FoldCourses_L7 (F : Nat) (y23 : ((List (List api_Span)) × Int)) (l556 : (List (VecN Bool 80))) (x1362 : Int) (k4 : (Int → Option Bool)) : Nat → (VecN Bool 80) → Int → Option Bool
  | 0, _, _ => none
  | n + 1, v1515, x1516 => law03_FoldCourses_B7 F y23 l556 x1362 k4 (law03_FoldCourses_L7 F y23 l556 x1362 k4 n) v1515 x1516

def law03_FoldCourses_B4 (F : Nat) (y6 : (List (List api_Span))) (y23 : ((List (List api_Span)) × Int)) (l301 : (List (VecN Bool 80))) (l556 : (List (VecN Bool 80))) (k4 : (Int → Option Bool)) (x1362 : Int) : Option Bool :=
  bif (decide (x1362 < ((y6.length : Nat) : Int))) then ((getI l301 x1362).bind fun u1445 =>
  law03_FoldCourses_L7 F y23 l556 x1362 k4 F u1445 0) else (law03_FoldCourses_K3)

def law03_FoldCourses_L4 (F : Nat) (y6 : (List (List api_Span))) (y23 : ((List (List api_Span)) × Int)) (l301 : (List (VecN Bool 80))) (l556 : (List (VecN Bool 80))) : Nat → Int → Option Bool
  | 0, _ => none
  | n + 1, x1362 => law03_FoldCourses_B4 F y6 y23 l301 l556 (law03_FoldCourses_L4 F y6 y23 l301 l556 n) x1362

def law03_FoldCourses_K2 (F : Nat) (y6 : (List (List api_Span))) (y23 : ((List (List api_Span)) × Int)) (l301 : (List (VecN Bool 80))) (l556 : (List (VecN Bool 80))) : Option Bool :=
  law03_FoldCourses_L4 F y6 y23 l301 l556 F 0

def law03_FoldCourses_K9 (x1695 : Int) (k8 : ((List (VecN Bool 80)) → Int → Int → Option Bool)) (l1736 : (List (VecN Bool 80))) (x1737 : Int) : Option Bool :=
  (ck (x1695 - 1)).bind fun x1738 =>
  k8 l1736 x1737 x1738

def law03_FoldCourses_K10 (x1695 : Int) (k8 : ((List (VecN Bool 80)) → Int → Int → Option Bool)) (l1767 : (List (VecN Bool 80))) : Option Bool :=
  law03_FoldCourses_K9 x1695 k8 l1767 x1695

def law03_FoldCourses_B8 (F : Nat) (y6 : (List (List api_Span))) (x14 : Int) (x17 : Int) (y23 : ((List (List api_Span)) × Int)) (l301 : (List (VecN Bool 80))) (k8 : ((List (VecN Bool 80)) → Int → Int → Option Bool)) (l1693 : (List (VecN Bool 80))) (x1694 : Int) (x1695 : Int) : Option Bool :=
  bif (decide (x1695 ≥ 0)) then ((getI y6 x1695).bind fun u1740 =>
  (law03_dots F u1740).bind fun y1747 =>
  (getI l1693 x1695).bind fun u1748 =>
  (setI l1693 x1695 y1747).bind fun l1749 =>
  (getI y6 x1695).bind fun u1750 =>
  bif (decide (((u1750.length : Nat) : Int) > 0)) then ((gd (((decide (x1694 ≥ 0)) == true && true)) (ck (x1694 - x1695)) 0).bind fun x1769 =>
  bif (bif (decide (x1694 ≥ 0)) then (decide (x1769 ≤ x17)) else false) then ((getI l1749 x1695).bind fun u1770 =>
  (getI l1749 x1694).bind fun u1771 =>
  (ck (x1694 - x1695)).bind fun x1772 =>
  (ck (x14 * x1772)).bind fun x1773 =>
  (law03_beside F u1770 u1771 x1773).bind fun y1774 =>
  (getI l1749 x1695).bind fun u1775 =>
  (setI l1749 x1695 y1774).bind fun l1776 =>
  law03_FoldCourses_K10 x1695 k8 l1776) else (law03_FoldCourses_K10 x1695 k8 l1749)) else (law03_FoldCourses_K9 x1695 k8 l1749 x1694)) else (law03_FoldCourses_K2 F y6 y23 l301 l1693)

def law03_FoldCourses_L8 (F : Nat) (y6 : (List (List api_Span))) (x14 : Int) (x17 : Int) (y23 : ((List (List api_Span)) × Int)) (l301 : (List (VecN Bool 80))) : Nat → (List (VecN Bool 80)) → Int → Int → Option Bool
  | 0, _, _, _ => none
  | n + 1, l1693, x1694, x1695 => law03_FoldCourses_B8 F y6 x14 x17 y23 l301 (law03_FoldCourses_L8 F y6 x14 x17 y23 l301 n) l1693 x1694 x1695

def law03_FoldCourses_K1 (F : Nat) (y6 : (List (List api_Span))) (x14 : Int) (x17 : Int) (y23 : ((List (List api_Span)) × Int)) (l33 : (List (VecN Bool 80))) (l301 : (List (VecN Bool 80))) : Option Bool :=
  (ck (((y6.length : Nat) : Int) - 1)).bind fun x1525 =>
  law03_FoldCourses_L8 F y6 x14 x17 y23 l301 F l33 (-1) x1525

def law03_FoldCourses_K12 (x1947 : Int) (k11 : ((List (VecN Bool 80)) → Int → Int → Option Bool)) (l1988 : (List (VecN Bool 80))) (x1989 : Int) : Option Bool :=
  (ck (x1947 + 1)).bind fun x1990 =>
  k11 l1988 x1989 x1990

def law03_FoldCourses_K13 (x1947 : Int) (k11 : ((List (VecN Bool 80)) → Int → Int → Option Bool)) (l2019 : (List (VecN Bool 80))) : Option Bool :=
  law03_FoldCourses_K12 x1947 k11 l2019 x1947

def law03_FoldCourses_B11 (F : Nat) (y6 : (List (List api_Span))) (x14 : Int) (x17 : Int) (y23 : ((List (List api_Span)) × Int)) (l33 : (List (VecN Bool 80))) (k11 : ((List (VecN Bool 80)) → Int → Int → Option Bool)) (l1945 : (List (VecN Bool 80))) (x1946 : Int) (x1947 : Int) : Option Bool :=
  bif (decide (x1947 < ((y6.length : Nat) : Int))) then ((getI y6 x1947).bind fun u1992 =>
  (law03_dots F u1992).bind fun y1999 =>
  (getI l1945 x1947).bind fun u2000 =>
  (setI l1945 x1947 y1999).bind fun l2001 =>
  (getI y6 x1947).bind fun u2002 =>
  bif (decide (((u2002.length : Nat) : Int) > 0)) then ((gd (((decide (x1946 ≥ 0)) == true && true)) (ck (x1947 - x1946)) 0).bind fun x2021 =>
  bif (bif (decide (x1946 ≥ 0)) then (decide (x2021 ≤ x17)) else false) then ((getI l2001 x1947).bind fun u2022 =>
  (getI l2001 x1946).bind fun u2023 =>
  (ck (x1947 - x1946)).bind fun x2024 =>
  (ck (x14 * x2024)).bind fun x2025 =>
  (law03_beside F u2022 u2023 x2025).bind fun y2026 =>
  (getI l2001 x1947).bind fun u2027 =>
  (setI l2001 x1947 y2026).bind fun l2028 =>
  law03_FoldCourses_K13 x1947 k11 l2028) else (law03_FoldCourses_K13 x1947 k11 l2001)) else (law03_FoldCourses_K12 x1947 k11 l2001 x1946)) else (law03_FoldCourses_K1 F y6 x14 x17 y23 l33 l1945)

def law03_FoldCourses_L11 (F : Nat) (y6 : (List (List api_Span))) (x14 : Int) (x17 : Int) (y23 : ((List (List api_Span)) × Int)) (l33 : (List (VecN Bool 80))) : Nat → (List (VecN Bool 80)) → Int → Int → Option Bool
  | 0, _, _, _ => none
  | n + 1, l1945, x1946, x1947 => law03_FoldCourses_B11 F y6 x14 x17 y23 l33 (law03_FoldCourses_L11 F y6 x14 x17 y23 l33 n) l1945 x1946 x1947

def law03_FoldCourses (F : Nat) (p0 : (List (List Int))) (p1 : Int) (p2 : Int) : Option Bool :=
  bif (decide (((p0.length : Nat) : Int) > 7)) then (some law03_works) else ((law03_made F p0).bind fun y6 =>
  (ck p1).bind fun x13 =>
  (remC x13 13).bind fun x14 =>
  (ck p2).bind fun x15 =>
  (remC x15 3).bind fun x16 =>
  (ck (1 + x16)).bind fun x17 =>
  (fold_Ray F y6 x14 x17).bind fun y23 =>
  bif (bif (y23.2 != 0) then true else (((y23.1.length : Nat) : Int) != ((y6.length : Nat) : Int))) then (some false) else ((mkI 80 ((y6.length : Nat) : Int) (default : VecN Bool 80)).bind fun l31 =>
  (mkI 80 ((y6.length : Nat) : Int) (default : VecN Bool 80)).bind fun l33 =>
  law03_FoldCourses_L11 F y6 x14 x17 y23 l33 F l31 (-1) 0))
end Go.Proofs.Ytbhjgebjojdohaa
