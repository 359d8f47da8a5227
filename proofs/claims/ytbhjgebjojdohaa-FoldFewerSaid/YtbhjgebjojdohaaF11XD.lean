import Derived.Test.YtbhjgebjojdohaaF11EB
namespace Go.Proofs.Ytbhjgebjojdohaa
open Go Go.RowKit Go.Eng
set_option maxRecDepth 10000
set_option maxHeartbeats 4000000
set_option linter.unusedVariables false
set_option linter.unusedSimpArgs false
structure pulse_Train where
  Lambda : Int
  Kind : Int
  First : Int
  Second : Int
  Count : Int
  deriving Inhabited,DecidableEq
def pulse_Train.cells (x : pulse_Train) : List Value:=[.int .i64 x.Lambda,.int .i64 x.Kind,.int .i64 x.First,.int .i64 x.Second,.int .i64 x.Count]
theorem pulse_Train.cells_len (x : pulse_Train) : (pulse_Train.cells x).length = 5:=rfl
structure api_Span where
  Lo : Int
  Hi : Int
  deriving Inhabited,DecidableEq
def api_Span.cells (x : api_Span) : List Value:=[.int .i64 x.Lo,.int .i64 x.Hi]
theorem api_Span.cells_len (x : api_Span) : (api_Span.cells x).length = 2:=rfl
structure api_Echo where
  Kind : Int
  Power : api_Span
  Steps : (api_Span×api_Span)
  Spread : Int
  Ratio : api_Span
  Match : api_Span
  Turn : api_Span
  deriving Inhabited,DecidableEq
def api_Echo.cells (x : api_Echo) : List Value:=[.int .i64 x.Kind,.int .i64 x.Power.Lo,.int .i64 x.Power.Hi,.int .i64 x.Steps.1.Lo,.int .i64 x.Steps.1.Hi,.int .i64 x.Steps.2.Lo,.int .i64 x.Steps.2.Hi,.int .i64 x.Spread,.int .i64 x.Ratio.Lo,.int .i64 x.Ratio.Hi,.int .i64 x.Match.Lo,.int .i64 x.Match.Hi,.int .i64 x.Turn.Lo,.int .i64 x.Turn.Hi]
theorem api_Echo.cells_len (x : api_Echo) : (api_Echo.cells x).length = 14:=rfl
structure fold_option where
  whole : Int
  speed : api_Span
  deriving Inhabited,DecidableEq
def fold_option.cells (x : fold_option) : List Value:=[.int .i64 x.whole,.int .i64 x.speed.Lo,.int .i64 x.speed.Hi]
theorem fold_option.cells_len (x : fold_option) : (fold_option.cells x).length = 3:=rfl
structure fold_Guess where
  Whole : (Int×Int)
  Speed : api_Span
  deriving Inhabited,DecidableEq
def fold_Guess.cells (x : fold_Guess) : List Value:=[.int .i64 x.Whole.1,.int .i64 x.Whole.2,.int .i64 x.Speed.Lo,.int .i64 x.Speed.Hi]
theorem fold_Guess.cells_len (x : fold_Guess) : (fold_Guess.cells x).length = 4:=rfl
structure ref02_Train where
  Lambda : Int
  Kind : Int
  First : Int
  Second : Int
  Count : Int
  deriving Inhabited,DecidableEq
def ref02_Train.cells (x : ref02_Train) : List Value:=[.int .i64 x.Lambda,.int .i64 x.Kind,.int .i64 x.First,.int .i64 x.Second,.int .i64 x.Count]
theorem ref02_Train.cells_len (x : ref02_Train) : (ref02_Train.cells x).length = 5:=rfl
structure ref03_Guess where
  Whole : (Int×Int)
  Speed : api_Span
  deriving Inhabited,DecidableEq
def ref03_Guess.cells (x : ref03_Guess) : List Value:=[.int .i64 x.Whole.1,.int .i64 x.Whole.2,.int .i64 x.Speed.Lo,.int .i64 x.Speed.Hi]
theorem ref03_Guess.cells_len (x : ref03_Guess) : (ref03_Guess.cells x).length = 4:=rfl
structure fold_place where
  ray : Int
  gate : Int
  deriving Inhabited,DecidableEq
def fold_place.cells (x : fold_place) : List Value:=[.int .i64 x.ray,.int .i64 x.gate]
theorem fold_place.cells_len (x : fold_place) : (fold_place.cells x).length = 2:=rfl
structure fold_bond where
  to : fold_place
  most : Int
  deriving Inhabited,DecidableEq
def fold_bond.cells (x : fold_bond) : List Value:=[.int .i64 x.to.ray,.int .i64 x.to.gate,.int .i64 x.most]
theorem fold_bond.cells_len (x : fold_bond) : (fold_bond.cells x).length = 3:=rfl
structure fold_web where
  sets : (List (List (List api_Span)))
  bonds : (List (fold_place×(List fold_bond)))
  deriving Inhabited,DecidableEq
structure ref03_Place where
  Ray : Int
  Gate : Int
  deriving Inhabited,DecidableEq
def ref03_Place.cells (x : ref03_Place) : List Value:=[.int .i64 x.Ray,.int .i64 x.Gate]
theorem ref03_Place.cells_len (x : ref03_Place) : (ref03_Place.cells x).length = 2:=rfl
structure ref03_Link where
  A : ref03_Place
  B : ref03_Place
  Most : Int
  deriving Inhabited,DecidableEq
def ref03_Link.cells (x : ref03_Link) : List Value:=[.int .i64 x.A.Ray,.int .i64 x.A.Gate,.int .i64 x.B.Ray,.int .i64 x.B.Gate,.int .i64 x.Most]
theorem ref03_Link.cells_len (x : ref03_Link) : (ref03_Link.cells x).length = 5:=rfl
abbrev pulse_Train.ar (x : pulse_Train) : Array Value:=#[.int .i64 x.Lambda,.int .i64 x.Kind,.int .i64 x.First,.int .i64 x.Second,.int .i64 x.Count]
abbrev pulse_Train.ag (x : pulse_Train) : Value:=.agg #[.int .i64 x.Lambda,.int .i64 x.Kind,.int .i64 x.First,.int .i64 x.Second,.int .i64 x.Count]
abbrev api_Echo.ar (x : api_Echo) : Array Value:=#[.int .i64 x.Kind,.int .i64 x.Power.Lo,.int .i64 x.Power.Hi,.int .i64 x.Steps.1.Lo,.int .i64 x.Steps.1.Hi,.int .i64 x.Steps.2.Lo,.int .i64 x.Steps.2.Hi,.int .i64 x.Spread,.int .i64 x.Ratio.Lo,.int .i64 x.Ratio.Hi,.int .i64 x.Match.Lo,.int .i64 x.Match.Hi,.int .i64 x.Turn.Lo,.int .i64 x.Turn.Hi]
abbrev api_Echo.ag (x : api_Echo) : Value:=.agg #[.int .i64 x.Kind,.int .i64 x.Power.Lo,.int .i64 x.Power.Hi,.int .i64 x.Steps.1.Lo,.int .i64 x.Steps.1.Hi,.int .i64 x.Steps.2.Lo,.int .i64 x.Steps.2.Hi,.int .i64 x.Spread,.int .i64 x.Ratio.Lo,.int .i64 x.Ratio.Hi,.int .i64 x.Match.Lo,.int .i64 x.Match.Hi,.int .i64 x.Turn.Lo,.int .i64 x.Turn.Hi]
abbrev fold_option.ar (x : fold_option) : Array Value:=#[.int .i64 x.whole,.int .i64 x.speed.Lo,.int .i64 x.speed.Hi]
abbrev fold_option.ag (x : fold_option) : Value:=.agg #[.int .i64 x.whole,.int .i64 x.speed.Lo,.int .i64 x.speed.Hi]
abbrev fold_Guess.ar (x : fold_Guess) : Array Value:=#[.int .i64 x.Whole.1,.int .i64 x.Whole.2,.int .i64 x.Speed.Lo,.int .i64 x.Speed.Hi]
abbrev fold_Guess.ag (x : fold_Guess) : Value:=.agg #[.int .i64 x.Whole.1,.int .i64 x.Whole.2,.int .i64 x.Speed.Lo,.int .i64 x.Speed.Hi]
abbrev ref02_Train.ar (x : ref02_Train) : Array Value:=#[.int .i64 x.Lambda,.int .i64 x.Kind,.int .i64 x.First,.int .i64 x.Second,.int .i64 x.Count]
abbrev ref02_Train.ag (x : ref02_Train) : Value:=.agg #[.int .i64 x.Lambda,.int .i64 x.Kind,.int .i64 x.First,.int .i64 x.Second,.int .i64 x.Count]
abbrev ref03_Guess.ar (x : ref03_Guess) : Array Value:=#[.int .i64 x.Whole.1,.int .i64 x.Whole.2,.int .i64 x.Speed.Lo,.int .i64 x.Speed.Hi]
abbrev ref03_Guess.ag (x : ref03_Guess) : Value:=.agg #[.int .i64 x.Whole.1,.int .i64 x.Whole.2,.int .i64 x.Speed.Lo,.int .i64 x.Speed.Hi]
abbrev fold_bond.ar (x : fold_bond) : Array Value:=#[.int .i64 x.to.ray,.int .i64 x.to.gate,.int .i64 x.most]
abbrev fold_bond.ag (x : fold_bond) : Value:=.agg #[.int .i64 x.to.ray,.int .i64 x.to.gate,.int .i64 x.most]
abbrev ref03_Link.ar (x : ref03_Link) : Array Value:=#[.int .i64 x.A.Ray,.int .i64 x.A.Gate,.int .i64 x.B.Ray,.int .i64 x.B.Gate,.int .i64 x.Most]
abbrev ref03_Link.ag (x : ref03_Link) : Value:=.agg #[.int .i64 x.A.Ray,.int .i64 x.A.Gate,.int .i64 x.B.Ray,.int .i64 x.B.Gate,.int .i64 x.Most]
def Rp43 : Rel (List api_Span):=fun μ cs x=>∃ (ad1 : Option Addr) (cap2 : Nat),cs = [.slice ad1 x.length cap2]∧ArrM μ 2 api_Span.cells ad1 cap2 x
theorem Rp43.mono : Rel.Mono Rp43:=by
  intro μ ν cs x hle h
  obtain ⟨ad1,cap2,rfl,f0⟩:=h
  exact ⟨ad1,cap2,rfl,f0.mono hle⟩
theorem Rp43.one : Rel.One 1 Rp43:=by
  intro μ cs x h
  obtain ⟨ad1,cap2,rfl,f0⟩:=h
  all_goals rfl
def Rp132 : Rel (List api_Span):=fun μ cs x=>∃ (ad1 : Option Addr) (cap2 : Nat),cs = [.slice ad1 x.length cap2]∧ArrM μ 2 api_Span.cells ad1 cap2 x
theorem Rp132.mono : Rel.Mono Rp132:=by
  intro μ ν cs x hle h
  obtain ⟨ad1,cap2,rfl,f0⟩:=h
  exact ⟨ad1,cap2,rfl,f0.mono hle⟩
theorem Rp132.one : Rel.One 1 Rp132:=by
  intro μ cs x h
  obtain ⟨ad1,cap2,rfl,f0⟩:=h
  all_goals rfl
def Rp135 : Rel (List (List api_Span)):=fun μ cs x=>∃ (ad1 : Option Addr) (cap2 : Nat) (css3 : List (List Value)),cs = [.slice ad1 x.length cap2]∧ArrQ μ 1 Rp132 ad1 cap2 css3 x
theorem Rp135.mono : Rel.Mono Rp135:=by
  intro μ ν cs x hle h
  obtain ⟨ad1,cap2,css3,rfl,f0⟩:=h
  exact ⟨ad1,cap2,css3,rfl,f0.mono Rp132.mono hle⟩
theorem Rp135.one : Rel.One 1 Rp135:=by
  intro μ cs x h
  obtain ⟨ad1,cap2,css3,rfl,f0⟩:=h
  all_goals rfl
def Rp48 : Rel (List (List api_Span)):=fun μ cs x=>∃ (ad1 : Option Addr) (cap2 : Nat) (css3 : List (List Value)),cs = [.slice ad1 x.length cap2]∧ArrQ μ 1 Rp43 ad1 cap2 css3 x
theorem Rp48.mono : Rel.Mono Rp48:=by
  intro μ ν cs x hle h
  obtain ⟨ad1,cap2,css3,rfl,f0⟩:=h
  exact ⟨ad1,cap2,css3,rfl,f0.mono Rp43.mono hle⟩
theorem Rp48.one : Rel.One 1 Rp48:=by
  intro μ cs x h
  obtain ⟨ad1,cap2,css3,rfl,f0⟩:=h
  all_goals rfl
def Rp91 : Rel (List Int):=fun μ cs x=>∃ (ad1 : Option Addr) (cap2 : Nat),cs = [.slice ad1 x.length cap2]∧ArrM μ 1 (fK .u8) ad1 cap2 x
theorem Rp91.mono : Rel.Mono Rp91:=by
  intro μ ν cs x hle h
  obtain ⟨ad1,cap2,rfl,f0⟩:=h
  exact ⟨ad1,cap2,rfl,f0.mono hle⟩
theorem Rp91.one : Rel.One 1 Rp91:=by
  intro μ cs x h
  obtain ⟨ad1,cap2,rfl,f0⟩:=h
  all_goals rfl
def Rp82 : Rel (List (List Int)):=fun μ cs x=>∃ (ad1 : Option Addr) (cap2 : Nat) (css3 : List (List Value)),cs = [.slice ad1 x.length cap2]∧ArrQ μ 1 Rp91 ad1 cap2 css3 x
theorem Rp82.mono : Rel.Mono Rp82:=by
  intro μ ν cs x hle h
  obtain ⟨ad1,cap2,css3,rfl,f0⟩:=h
  exact ⟨ad1,cap2,css3,rfl,f0.mono Rp91.mono hle⟩
theorem Rp82.one : Rel.One 1 Rp82:=by
  intro μ cs x h
  obtain ⟨ad1,cap2,css3,rfl,f0⟩:=h
  all_goals rfl
def law03_works : Bool:=true
def spB (s : api_Span) : Prop:=-4000000000000000000≤s.Lo∧s.Lo≤4000000000000000000
instance (s : api_Span) : Decidable (spB s):=by unfold spB; infer_instance
instance : Inhabited {s : api_Span // spB s}:=⟨⟨⟨0,0⟩,by decide⟩⟩
def spCmp (x y : {s : api_Span // spB s}) : Int:=x.val.Lo - y.val.Lo
def slices_SortFunc100 (F : Nat) (p0 : List api_Span) : Option (List api_Span) :=
  if h : (∀ s ∈ p0,spB s)∧p0.length < 4611686018427387904 then some ((sortL spCmp (p0.pmap Subtype.mk h.1)).map Subtype.val) else none
def fold_common (p0 : api_Span) (p1 : api_Span) : (api_Span×Bool) :=
  ((api_Span.mk (if p1.Lo > p0.Lo then p1.Lo else p0.Lo) (if p1.Hi < p0.Hi then p1.Hi else p0.Hi)),decide ((if p1.Lo > p0.Lo then p1.Lo else p0.Lo)≤(if p1.Hi < p0.Hi then p1.Hi else p0.Hi)))
def fold_checked_K1 : Option Int :=
  some 0
def fold_checked_B2 (p0 : (List api_Span)) (p1 : Bool) (k2 : (Int→Option Int)) (a0 : Int) : Option Int :=
  bif (decide (a0 < ((p0.length : Nat) : Int))) then ((getI p0 a0).bind fun a1 =>
  bif (bif (bif (decide (a1.Lo > a1.Hi)) then true else (decide (a1.Lo < (-200000)))) then true else (decide (a1.Hi > 200000))) then (some 3) else ((gd (((bif p1 then (decide (a0 > 0)) else false) == true && true)) (ck (a0 - 1)) 0).bind fun a3 =>
  (gd (((bif p1 then (decide (a0 > 0)) else false) == true && true)) (getI p0 a3) default).bind fun a2 =>
  bif (bif (bif p1 then (decide (a0 > 0)) else false) then (decide (a1.Lo≤a2.Hi)) else false) then (some 12) else ((ck (a0 + 1)).bind fun a4 =>
  k2 a4))) else (fold_checked_K1)
def fold_checked_L2 (p0 : (List api_Span)) (p1 : Bool) : Nat→Int→Option Int
  | 0,_=>none
  | n + 1,a0=>fold_checked_B2 p0 p1 (fold_checked_L2 p0 p1 n) a0
def fold_checked (F : Nat) (p0 : (List api_Span)) (p1 : Bool) : Option Int :=
  bif (decide (((p0.length : Nat) : Int) > 256)) then (some 9) else (fold_checked_L2 p0 p1 F 0)
def slices_Clone_fold_speeds_api_Span (F : Nat) (p0 : (List api_Span)) : Option (List api_Span) :=
  (apd 16 ([] : List api_Span) p0).bind fun l5 =>
  some l5
def fold_speeds_united_K1 (a0 : (List api_Span)) : Option (List api_Span) :=
  some a0
def fold_speeds_united_K3 (a1 : Int) (k2 : (Int→(List api_Span)→Option (List api_Span))) (a0 : (List api_Span)) : Option (List api_Span) :=
  (ck (a1 + 1)).bind fun a2 =>
  k2 a2 a0
def fold_speeds_united_B2 (y9 : (List api_Span)) (k2 : (Int→(List api_Span)→Option (List api_Span))) (a2 : Int) (a0 : (List api_Span)) : Option (List api_Span) :=
  bif (decide (a2 < ((y9.length : Nat) : Int))) then ((getI y9 a2).bind fun a1 =>
  (gd (((decide (((a0.length : Nat) : Int) > 0)) == true && true)) (ck (((a0.length : Nat) : Int) - 1)) 0).bind fun a9 =>
  (gd (((decide (((a0.length : Nat) : Int) > 0)) == true && true)) (getI a0 a9) default).bind fun a7 =>
  bif (bif (decide (((a0.length : Nat) : Int) > 0)) then (decide (a1.Lo≤a7.Hi)) else false) then ((ck (((a0.length : Nat) : Int) - 1)).bind fun a4 =>
  (ck (((a0.length : Nat) : Int) - 1)).bind fun aA =>
  (getI a0 aA).bind fun a3 =>
  (getI a0 a4).bind fun a8 =>
  (setI a0 a4 (api_Span.mk a8.Lo (if a1.Hi > a3.Hi then a1.Hi else a3.Hi))).bind fun a5 =>
  fold_speeds_united_K3 a2 k2 a5) else ((apd 16 a0 ([a1])).bind fun a6 =>
  fold_speeds_united_K3 a2 k2 a6)) else (fold_speeds_united_K1 a0)
def fold_speeds_united_L2 (y9 : (List api_Span)) : Nat→Int→(List api_Span)→Option (List api_Span)
  | 0,_,_=>none
  | n + 1,a1,a0=>fold_speeds_united_B2 y9 (fold_speeds_united_L2 y9 n) a1 a0
def fold_speeds_united (F : Nat) (p0 : (List api_Span)) : Option (List api_Span) :=
  (slices_Clone_fold_speeds_api_Span F p0).bind fun y5 =>
  (slices_SortFunc100 F y5).bind fun y9 =>
  fold_speeds_united_L2 y9 F 0 ([])
def law03_spans_K1 : Option Bool :=
  some true
def law03_spans_B2 (p0 : (List api_Span)) (p1 : (List api_Span)) (k2 : (Int→Option Bool)) (a0 : Int) : Option Bool :=
  bif (decide (a0 < ((p0.length : Nat) : Int))) then ((getI p0 a0).bind fun a1 =>
  (getI p1 a0).bind fun a2 =>
  bif (!(((a1.Lo : Int) == a2.Lo) && (((a1.Hi : Int) == a2.Hi) && true))) then (some false) else ((ck (a0 + 1)).bind fun a3 =>
  k2 a3)) else (law03_spans_K1)
def law03_spans_L2 (p0 : (List api_Span)) (p1 : (List api_Span)) : Nat→Int→Option Bool
  | 0,_=>none
  | n + 1,a0=>law03_spans_B2 p0 p1 (law03_spans_L2 p0 p1 n) a0
def law03_spans (F : Nat) (p0 : (List api_Span)) (p1 : (List api_Span)) : Option Bool :=
  bif (((p0.length : Nat) : Int) != ((p1.length : Nat) : Int)) then (some false) else (law03_spans_L2 p0 p1 F 0)
def fold_row_K1 (a0 : (List (List api_Span))) : Option ((List (List api_Span))×Int) :=
  some (a0,0)
def fold_row_B2 (F : Nat) (p0 : (List (List api_Span))) (k2 : (Int→(List (List api_Span))→Option ((List (List api_Span))×Int))) (a0 : Int) (a1 : (List (List api_Span))) : Option ((List (List api_Span))×Int) :=
  bif (decide (a0 < ((p0.length : Nat) : Int))) then ((getI p0 a0).bind fun a2 =>
  (fold_checked F a2 true).bind fun a3 =>
  bif (a3 != 0) then (some (([] : (List (List api_Span))),a3)) else ((fold_speeds_united F a2).bind fun a6 =>
  (apd 24 a1 ([a6])).bind fun a4 =>
  (ck (a0 + 1)).bind fun a5 =>
  k2 a5 a4)) else (fold_row_K1 a1)
def fold_row_L2 (F : Nat) (p0 : (List (List api_Span))) : Nat→Int→(List (List api_Span))→Option ((List (List api_Span))×Int)
  | 0,_,_=>none
  | n + 1,a1,a0=>fold_row_B2 F p0 (fold_row_L2 F p0 n) a1 a0
def fold_row (F : Nat) (p0 : (List (List api_Span))) : Option ((List (List api_Span))×Int) :=
  bif (decide (((p0.length : Nat) : Int) > 200)) then (some (([] : (List (List api_Span))),9)) else (fold_row_L2 F p0 F 0 ([]))
def fold_limited (p0 : Int) (p1 : Int) : Int :=
  bif (bif (bif (bif (decide (p0 < 0)) then true else (decide (p0 > 400000))) then true else (decide (p1 < 1))) then true else (decide (p1 > 16))) then (3) else (0)
def fold_known_K1 (a0 : (List Int)) : Option (List Int) :=
  some a0
def fold_known_K3 (a1 : Int) (k2 : ((List Int)→Int→Option (List Int))) (a0 : (List Int)) : Option (List Int) :=
  (ck (a1 + 1)).bind fun a2 =>
  k2 a0 a2
def fold_known_B2 (p0 : (List (List api_Span))) (k2 : ((List Int)→Int→Option (List Int))) (a1 : (List Int)) (a0 : Int) : Option (List Int) :=
  bif (decide (a0 < ((p0.length : Nat) : Int))) then ((getI p0 a0).bind fun a3 =>
  bif (decide (((a3.length : Nat) : Int) > 0)) then ((apd 8 a1 ([a0])).bind fun a2 =>
  fold_known_K3 a0 k2 a2) else (fold_known_K3 a0 k2 a1)) else (fold_known_K1 a1)
def fold_known_L2 (p0 : (List (List api_Span))) : Nat→(List Int)→Int→Option (List Int)
  | 0,_,_=>none
  | n + 1,a0,a1=>fold_known_B2 p0 (fold_known_L2 p0 n) a0 a1
def fold_known (F : Nat) (p0 : (List (List api_Span))) : Option (List Int) :=
  fold_known_L2 p0 F ([]) 0
def fold_speeds_meet_K1 (F : Nat) (a0 : (List api_Span)) : Option (List api_Span) :=
  (fold_speeds_united F a0).bind fun a1 =>
  some a1
def fold_speeds_meet_K3 (p0 : (List api_Span)) (p1 : (List api_Span)) (a0 : Int) (a1 : Int) (k2 : ((List api_Span)→Int→Int→Option (List api_Span))) (a2 : (List api_Span)) : Option (List api_Span) :=
  (getI p0 a0).bind fun a3 =>
  (getI p1 a1).bind fun a4 =>
  bif (decide (a3.Hi < a4.Hi)) then ((ck (a0 + 1)).bind fun a5 =>
  k2 a2 a5 a1) else ((ck (a1 + 1)).bind fun a6 =>
  k2 a2 a0 a6)
def fold_speeds_meet_B2 (F : Nat) (p0 : (List api_Span)) (p1 : (List api_Span)) (k2 : ((List api_Span)→Int→Int→Option (List api_Span))) (a2 : (List api_Span)) (a0 : Int) (a1 : Int) : Option (List api_Span) :=
  bif (bif (decide (a0 < ((p0.length : Nat) : Int))) then (decide (a1 < ((p1.length : Nat) : Int))) else false) then ((getI p0 a0).bind fun a3 =>
  (getI p1 a1).bind fun a4 =>
  bif ((fold_common a3 a4).2) then ((apd 16 a2 ([(api_Span.mk (((fold_common a3 a4).1).Lo) (((fold_common a3 a4).1).Hi))])).bind fun a5 =>
  fold_speeds_meet_K3 p0 p1 a0 a1 k2 a5) else (fold_speeds_meet_K3 p0 p1 a0 a1 k2 a2)) else (fold_speeds_meet_K1 F a2)
def fold_speeds_meet_L2 (F : Nat) (p0 : (List api_Span)) (p1 : (List api_Span)) : Nat→(List api_Span)→Int→Int→Option (List api_Span)
  | 0,_,_,_=>none
  | n + 1,a0,a1,a2=>fold_speeds_meet_B2 F p0 p1 (fold_speeds_meet_L2 F p0 p1 n) a0 a1 a2
def fold_speeds_meet (F : Nat) (p0 : (List api_Span)) (p1 : (List api_Span)) : Option (List api_Span) :=
  fold_speeds_meet_L2 F p0 p1 F ([]) 0 0
def fold_speeds_wide_K1 (F : Nat) (a0 : (List api_Span)) : Option (List api_Span) :=
  (fold_speeds_united F a0).bind fun a1 =>
  some a1
def fold_speeds_wide_B2 (F : Nat) (p0 : (List api_Span)) (p1 : Int) (k2 : (Int→(List api_Span)→Option (List api_Span))) (a0 : Int) (a1 : (List api_Span)) : Option (List api_Span) :=
  bif (decide (a0 < ((p0.length : Nat) : Int))) then ((getI p0 a0).bind fun a2 =>
  (ck (a2.Lo - p1)).bind fun a4 =>
  (ck (a2.Hi + p1)).bind fun a5 =>
  (apd 16 a1 ([(api_Span.mk a4 a5)])).bind fun a3 =>
  (ck (a0 + 1)).bind fun a6 =>
  k2 a6 a3) else (fold_speeds_wide_K1 F a1)
def fold_speeds_wide_L2 (F : Nat) (p0 : (List api_Span)) (p1 : Int) : Nat→Int→(List api_Span)→Option (List api_Span)
  | 0,_,_=>none
  | n + 1,a1,a0=>fold_speeds_wide_B2 F p0 p1 (fold_speeds_wide_L2 F p0 p1 n) a1 a0
def fold_speeds_wide (F : Nat) (p0 : (List api_Span)) (p1 : Int) : Option (List api_Span) :=
  fold_speeds_wide_L2 F p0 p1 F 0 ([])
def fold_speeds_near (F : Nat) (p0 : (List api_Span)) (p1 : (List api_Span)) (p2 : Int) : Option (List api_Span) :=
  (fold_speeds_wide F p1 p2).bind fun y8 =>
  (fold_speeds_meet F p0 y8).bind fun a0 =>
  some a0
def fold_back_K1 (a0 : (List (List api_Span))) : Option (List (List api_Span)) :=
  some a0
def fold_back_B2 (F : Nat) (p0 : (List (List api_Span))) (k2 : ((List (List api_Span))→Int→Option (List (List api_Span)))) (a1 : (List (List api_Span))) (a0 : Int) : Option (List (List api_Span)) :=
  bif (decide (a0 < ((p0.length : Nat) : Int))) then ((getI p0 a0).bind fun a3 =>
  (slices_Clone_fold_speeds_api_Span F a3).bind fun a5 =>
  (apd 24 a1 ([a5])).bind fun a2 =>
  (ck (a0 + 1)).bind fun a4 =>
  k2 a2 a4) else (fold_back_K1 a1)
def fold_back_L2 (F : Nat) (p0 : (List (List api_Span))) : Nat→(List (List api_Span))→Int→Option (List (List api_Span))
  | 0,_,_=>none
  | n + 1,a0,a1=>fold_back_B2 F p0 (fold_back_L2 F p0 n) a0 a1
def fold_back (F : Nat) (p0 : (List (List api_Span))) : Option (List (List api_Span)) :=
  fold_back_L2 F p0 F ([]) 0
def law03_sets_K1 : Option Bool :=
  some true
def law03_sets_B2 (F : Nat) (p0 : (List (List api_Span))) (p1 : (List (List api_Span))) (k2 : (Int→Option Bool)) (a0 : Int) : Option Bool :=
  bif (decide (a0 < ((p0.length : Nat) : Int))) then ((getI p0 a0).bind fun a2 =>
  (getI p1 a0).bind fun a1 =>
  (law03_spans F a2 a1).bind fun a4 =>
  bif (!a4) then (some false) else ((ck (a0 + 1)).bind fun a3 =>
  k2 a3)) else (law03_sets_K1)
def law03_sets_L2 (F : Nat) (p0 : (List (List api_Span))) (p1 : (List (List api_Span))) : Nat→Int→Option Bool
  | 0,_=>none
  | n + 1,a0=>law03_sets_B2 F p0 p1 (law03_sets_L2 F p0 p1 n) a0
def law03_sets (F : Nat) (p0 : (List (List api_Span))) (p1 : (List (List api_Span))) : Option Bool :=
  bif (((p0.length : Nat) : Int) != ((p1.length : Nat) : Int)) then (some false) else (law03_sets_L2 F p0 p1 F 0)
def pfold_web_link (F : Nat) (p0 : fold_web) (p1 : fold_place) (p2 : fold_place) (p3 : Int) : Option fold_web :=
  (apd 24 ((lkM p0.bonds p1).getD []) ([(fold_bond.mk p2 p3)])).bind fun a0 =>
  (apd 24 ((lkM (upM p0.bonds p1 a0) p2).getD []) ([(fold_bond.mk p1 p3)])).bind fun a1 =>
  some (fold_web.mk p0.sets (upM (upM p0.bonds p1 a0) p2 a1))
def slices_Clone_fold_speeds_fold_speeds (F : Nat) (p0 : (List (List api_Span))) : Option (List (List api_Span)) :=
  (apd 24 ([] : List (List api_Span)) p0).bind fun l7 =>
  some l7
def fold_weave_K1 (a0 : (List (List (List api_Span)))) (a1 : (List (fold_place×(List fold_bond)))) : Option fold_web :=
  some (fold_web.mk a0 a1)
def fold_weave_K3 (a2 : Int) (k2 : ((List (List (List api_Span)))→(List (fold_place×(List fold_bond)))→Int→Option fold_web)) (a0 : (List (List (List api_Span)))) (a1 : (List (fold_place×(List fold_bond)))) : Option fold_web :=
  (ck (a2 + 1)).bind fun a3 =>
  k2 a0 a1 a3
def fold_weave_K4 (F : Nat) (a4 : Int) (k2 : ((List (List (List api_Span)))→(List (fold_place×(List fold_bond)))→Int→Option fold_web)) (a3 : (List (List api_Span))) (a0 : (List (List (List api_Span)))) (a1 : (List (fold_place×(List fold_bond)))) : Option fold_web :=
  (slices_Clone_fold_speeds_fold_speeds F a3).bind fun a5 =>
  (apd 24 a0 ([a5])).bind fun a2 =>
  fold_weave_K3 a4 k2 a2 a1
def fold_weave_K6 (a2 : Int) (k5 : ((List (List (List api_Span)))→(List (fold_place×(List fold_bond)))→Int→Option fold_web)) (a0 : (List (List (List api_Span)))) (a1 : (List (fold_place×(List fold_bond)))) : Option fold_web :=
  (ck (a2 + 1)).bind fun a3 =>
  k5 a0 a1 a3
def fold_weave_B8 (F : Nat) (p0 : (List (List (List api_Span)))) (p1 : Int) (p2 : Int) (a4 : Int) (a5 : Int) (k5 : ((List (List (List api_Span)))→(List (fold_place×(List fold_bond)))→Int→Option fold_web)) (a1 : Int) (a2 : (List (List (List api_Span)))) (a3 : (List (fold_place×(List fold_bond)))) (k8 : (Int→Option fold_web)) (a0 : Int) : Option fold_web :=
  (ck (((p0.length : Nat) : Int) - 1)).bind fun a6 =>
  bif (decide (a0≤(if a6 < p2 then a6 else p2))) then ((ck (a4 + a0)).bind fun aB =>
  (remC aB ((p0.length : Nat) : Int)).bind fun a7 =>
  (getI p0 a7).bind fun a9 =>
  (getI a9 a1).bind fun aA =>
  bif (decide (((aA.length : Nat) : Int) > 0)) then ((ck (p1 * a0)).bind fun aC =>
  (pfold_web_link F (fold_web.mk a2 a3) (fold_place.mk a4 a1) (fold_place.mk a7 a1) aC).bind fun a8 =>
  fold_weave_K6 a5 k5 a8.sets a8.bonds) else ((ck (a0 + 1)).bind fun aD =>
  k8 aD)) else (fold_weave_K6 a5 k5 a2 a3)
def fold_weave_L8 (F : Nat) (p0 : (List (List (List api_Span)))) (p1 : Int) (p2 : Int) (a3 : Int) (a4 : Int) (k5 : ((List (List (List api_Span)))→(List (fold_place×(List fold_bond)))→Int→Option fold_web)) (a2 : Int) (a0 : (List (List (List api_Span)))) (a1 : (List (fold_place×(List fold_bond)))) : Nat→Int→Option fold_web
  | 0,_=>none
  | n + 1,a5=>fold_weave_B8 F p0 p1 p2 a3 a4 k5 a2 a0 a1 (fold_weave_L8 F p0 p1 p2 a3 a4 k5 a2 a0 a1 n) a5
def fold_weave_K7 (F : Nat) (p0 : (List (List (List api_Span)))) (p1 : Int) (p2 : Int) (a3 : Int) (a4 : Int) (k5 : ((List (List (List api_Span)))→(List (fold_place×(List fold_bond)))→Int→Option fold_web)) (a2 : Int) (a0 : (List (List (List api_Span)))) (a1 : (List (fold_place×(List fold_bond)))) : Option fold_web :=
  fold_weave_L8 F p0 p1 p2 a3 a4 k5 a2 a0 a1 F 1
def fold_weave_B5 (F : Nat) (p0 : (List (List (List api_Span)))) (p1 : Int) (p2 : Int) (a2 : Int) (k2 : ((List (List (List api_Span)))→(List (fold_place×(List fold_bond)))→Int→Option fold_web)) (a7 : (List (List api_Span))) (a3 : (List Int)) (k5 : ((List (List (List api_Span)))→(List (fold_place×(List fold_bond)))→Int→Option fold_web)) (a4 : (List (List (List api_Span)))) (a5 : (List (fold_place×(List fold_bond)))) (a0 : Int) : Option fold_web :=
  bif (decide (a0 < ((a3.length : Nat) : Int))) then ((getI a3 a0).bind fun a1 =>
  (gd (((decide (a0 > 0)) == true && true)) (ck (a0 - 1)) 0).bind fun aB =>
  (gd (((decide (a0 > 0)) == true && true)) (getI a3 aB) default).bind fun a8 =>
  (gd (((decide (a0 > 0)) == true && true)) (ck (a1 - a8)) 0).bind fun aC =>
  bif (bif (decide (a0 > 0)) then (decide (aC≤p2)) else false) then ((ck (a0 - 1)).bind fun aD =>
  (getI a3 aD).bind fun a9 =>
  (ck (a0 - 1)).bind fun aE =>
  (getI a3 aE).bind fun aA =>
  (ck (a1 - aA)).bind fun aF =>
  (ck (p1 * aF)).bind fun aG =>
  (pfold_web_link F (fold_web.mk a4 a5) (fold_place.mk a2 a9) (fold_place.mk a2 a1) aG).bind fun a6 =>
  fold_weave_K7 F p0 p1 p2 a2 a0 k5 a1 a6.sets a6.bonds) else (fold_weave_K7 F p0 p1 p2 a2 a0 k5 a1 a4 a5)) else (fold_weave_K4 F a2 k2 a7 a4 a5)
def fold_weave_L5 (F : Nat) (p0 : (List (List (List api_Span)))) (p1 : Int) (p2 : Int) (a1 : Int) (k2 : ((List (List (List api_Span)))→(List (fold_place×(List fold_bond)))→Int→Option fold_web)) (a0 : (List (List api_Span))) (a2 : (List Int)) : Nat→(List (List (List api_Span)))→(List (fold_place×(List fold_bond)))→Int→Option fold_web
  | 0,_,_,_=>none
  | n + 1,a3,a4,a5=>fold_weave_B5 F p0 p1 p2 a1 k2 a0 a2 (fold_weave_L5 F p0 p1 p2 a1 k2 a0 a2 n) a3 a4 a5
def fold_weave_B2 (F : Nat) (p0 : (List (List (List api_Span)))) (p1 : Int) (p2 : Int) (k2 : ((List (List (List api_Span)))→(List (fold_place×(List fold_bond)))→Int→Option fold_web)) (a1 : (List (List (List api_Span)))) (a2 : (List (fold_place×(List fold_bond)))) (a0 : Int) : Option fold_web :=
  bif (decide (a0 < ((p0.length : Nat) : Int))) then ((getI p0 a0).bind fun a3 =>
  (fold_known F a3).bind fun a4 =>
  fold_weave_L5 F p0 p1 p2 a0 k2 a3 a4 F a1 a2 0) else (fold_weave_K1 a1 a2)
def fold_weave_L2 (F : Nat) (p0 : (List (List (List api_Span)))) (p1 : Int) (p2 : Int) : Nat→(List (List (List api_Span)))→(List (fold_place×(List fold_bond)))→Int→Option fold_web
  | 0,_,_,_=>none
  | n + 1,a0,a1,a2=>fold_weave_B2 F p0 p1 p2 (fold_weave_L2 F p0 p1 p2 n) a0 a1 a2
def fold_weave (F : Nat) (p0 : (List (List (List api_Span)))) (p1 : Int) (p2 : Int) : Option fold_web :=
  fold_weave_L2 F p0 p1 p2 F ([]) ([] : List (fold_place×(List fold_bond))) 0
def fold_settle_1 (F : Nat) (p0 : fold_place) (c0_ : (List (fold_place×Bool))) (c1_ : (List fold_place)) : Option ((List (fold_place×Bool))×(List fold_place)) :=
  bif (!((lkM c0_ p0).getD false)) then ((apd 16 c1_ ([p0])).bind fun l6 =>
  some ((upM c0_ p0 true),l6)) else (some (c0_,c1_))
def slices_Equal_fold_speeds_api_Span_K1 : Option Bool :=
  some true
def slices_Equal_fold_speeds_api_Span_B2 (p0 : (List api_Span)) (p1 : (List api_Span)) (k2 : (Int→Option Bool)) (a0 : Int) : Option Bool :=
  bif (decide (a0 < ((p0.length : Nat) : Int))) then ((getI p0 a0).bind fun a1 =>
  (getI p1 a0).bind fun a2 =>
  bif (!(((a1.Lo : Int) == a2.Lo) && (((a1.Hi : Int) == a2.Hi) && true))) then (some false) else ((ck (a0 + 1)).bind fun a3 =>
  k2 a3)) else (slices_Equal_fold_speeds_api_Span_K1)
def slices_Equal_fold_speeds_api_Span_L2 (p0 : (List api_Span)) (p1 : (List api_Span)) : Nat→Int→Option Bool
  | 0,_=>none
  | n + 1,a0=>slices_Equal_fold_speeds_api_Span_B2 p0 p1 (slices_Equal_fold_speeds_api_Span_L2 p0 p1 n) a0
def slices_Equal_fold_speeds_api_Span (F : Nat) (p0 : (List api_Span)) (p1 : (List api_Span)) : Option Bool :=
  bif (((p0.length : Nat) : Int) != ((p1.length : Nat) : Int)) then (some false) else (slices_Equal_fold_speeds_api_Span_L2 p0 p1 F 0)
def fold_settle_K2 (a1 : (List fold_place)) (a0 : (List (List (List api_Span)))) (a2 : (List (fold_place×Bool))) : Option (List (List (List api_Span))) :=
  some a0
def fold_settle_K5 (a3 : Int) (k4 : ((List fold_place)→(List (List (List api_Span)))→(List (fold_place×Bool))→Int→Option (List (List (List api_Span))))) (a0 : (List fold_place)) (a1 : (List (List (List api_Span)))) (a2 : (List (fold_place×Bool))) : Option (List (List (List api_Span))) :=
  (ck (a3 + 1)).bind fun a4 =>
  k4 a0 a1 a2 a4
def fold_settle_B4 (F : Nat) (y5 : fold_web) (k3 : ((List fold_place)→(List (List (List api_Span)))→(List (fold_place×Bool))→Option (List (List (List api_Span))))) (a2 : fold_place) (k4 : ((List fold_place)→(List (List (List api_Span)))→(List (fold_place×Bool))→Int→Option (List (List (List api_Span))))) (a4 : (List fold_place)) (a1 : (List (List (List api_Span)))) (a5 : (List (fold_place×Bool))) (a3 : Int) : Option (List (List (List api_Span))) :=
  bif (decide (a3 < ((((lkM y5.bonds a2).getD []).length : Nat) : Int))) then ((getI ((lkM y5.bonds a2).getD []) a3).bind fun a0 =>
  (getI a1 a0.to.ray).bind fun aC =>
  (getI aC a0.to.gate).bind fun a6 =>
  (getI a1 a2.ray).bind fun aD =>
  (getI aD a2.gate).bind fun aE =>
  (fold_speeds_near F a6 aE a0.most).bind fun a8 =>
  (slices_Equal_fold_speeds_api_Span F a6 a8).bind fun aF =>
  bif (!aF) then ((getI a1 a0.to.ray).bind fun a7 =>
  (getI a7 a0.to.gate).bind fun aG =>
  (setI a7 a0.to.gate a8).bind fun aA =>
  (setI a1 a0.to.ray aA).bind fun aB =>
  (fold_settle_1 F a0.to a5 a4).bind fun a9 =>
  fold_settle_K5 a3 k4 a9.2 aB a9.1) else (fold_settle_K5 a3 k4 a4 a1 a5)) else (k3 a4 a1 a5)
def fold_settle_L4 (F : Nat) (y5 : fold_web) (k3 : ((List fold_place)→(List (List (List api_Span)))→(List (fold_place×Bool))→Option (List (List (List api_Span))))) (a0 : fold_place) : Nat→(List fold_place)→(List (List (List api_Span)))→(List (fold_place×Bool))→Int→Option (List (List (List api_Span)))
  | 0,_,_,_,_=>none
  | n + 1,a1,a2,a3,a4=>fold_settle_B4 F y5 k3 a0 (fold_settle_L4 F y5 k3 a0 n) a1 a2 a3 a4
def fold_settle_B3 (F : Nat) (y5 : fold_web) (k3 : ((List fold_place)→(List (List (List api_Span)))→(List (fold_place×Bool))→Option (List (List (List api_Span))))) (a0 : (List fold_place)) (a1 : (List (List (List api_Span)))) (a2 : (List (fold_place×Bool))) : Option (List (List (List api_Span))) :=
  bif (decide (((a0.length : Nat) : Int) > 0)) then ((getI a0 0).bind fun a3 =>
  (cutI a0 1 ((a0.length : Nat) : Int)).bind fun a4 =>
  fold_settle_L4 F y5 k3 a3 F a4 a1 (delM a2 a3) 0) else (fold_settle_K2 a0 a1 a2)
def fold_settle_L3 (F : Nat) (y5 : fold_web) : Nat→(List fold_place)→(List (List (List api_Span)))→(List (fold_place×Bool))→Option (List (List (List api_Span)))
  | 0,_,_,_=>none
  | n + 1,a0,a1,a2=>fold_settle_B3 F y5 (fold_settle_L3 F y5 n) a0 a1 a2
def fold_settle_K1 (F : Nat) (y5 : fold_web) (a0 : (List fold_place)) (a1 : (List (fold_place×Bool))) : Option (List (List (List api_Span))) :=
  fold_settle_L3 F y5 F a0 y5.sets a1
def fold_settle_K7 (a2 : Int) (k6 : ((List fold_place)→(List (fold_place×Bool))→Int→Option (List (List (List api_Span))))) (a0 : (List fold_place)) (a1 : (List (fold_place×Bool))) : Option (List (List (List api_Span))) :=
  (ck (a2 + 1)).bind fun a3 =>
  k6 a0 a1 a3
def fold_settle_B8 (F : Nat) (a3 : Int) (k6 : ((List fold_place)→(List (fold_place×Bool))→Int→Option (List (List (List api_Span))))) (a4 : (List Int)) (k8 : ((List fold_place)→(List (fold_place×Bool))→Int→Option (List (List (List api_Span))))) (a1 : (List fold_place)) (a2 : (List (fold_place×Bool))) (a0 : Int) : Option (List (List (List api_Span))) :=
  bif (decide (a0 < ((a4.length : Nat) : Int))) then ((getI a4 a0).bind fun a6 =>
  (fold_settle_1 F (fold_place.mk a3 a6) a2 a1).bind fun a5 =>
  (ck (a0 + 1)).bind fun a7 =>
  k8 a5.2 a5.1 a7) else (fold_settle_K7 a3 k6 a1 a2)
def fold_settle_L8 (F : Nat) (a0 : Int) (k6 : ((List fold_place)→(List (fold_place×Bool))→Int→Option (List (List (List api_Span))))) (a1 : (List Int)) : Nat→(List fold_place)→(List (fold_place×Bool))→Int→Option (List (List (List api_Span)))
  | 0,_,_,_=>none
  | n + 1,a2,a3,a4=>fold_settle_B8 F a0 k6 a1 (fold_settle_L8 F a0 k6 a1 n) a2 a3 a4
def fold_settle_B6 (F : Nat) (p0 : (List (List (List api_Span)))) (y5 : fold_web) (k6 : ((List fold_place)→(List (fold_place×Bool))→Int→Option (List (List (List api_Span))))) (a1 : (List fold_place)) (a2 : (List (fold_place×Bool))) (a0 : Int) : Option (List (List (List api_Span))) :=
  bif (decide (a0 < ((p0.length : Nat) : Int))) then ((getI p0 a0).bind fun a3 =>
  (fold_known F a3).bind fun a4 =>
  fold_settle_L8 F a0 k6 a4 F a1 a2 0) else (fold_settle_K1 F y5 a1 a2)
def fold_settle_L6 (F : Nat) (p0 : (List (List (List api_Span)))) (y5 : fold_web) : Nat→(List fold_place)→(List (fold_place×Bool))→Int→Option (List (List (List api_Span)))
  | 0,_,_,_=>none
  | n + 1,a0,a1,a2=>fold_settle_B6 F p0 y5 (fold_settle_L6 F p0 y5 n) a0 a1 a2
def fold_settle (F : Nat) (p0 : (List (List (List api_Span)))) (p1 : Int) (p2 : Int) : Option (List (List (List api_Span))) :=
  (fold_weave F p0 p1 p2).bind fun y5 =>
  fold_settle_L6 F p0 y5 F ([]) ([] : List (fold_place×Bool)) 0
def fold_Turn_K3 (a0 : (List (List (List api_Span)))) : Option ((List (List (List api_Span)))×Int) :=
  some (a0,0)
def fold_Turn_B4 (F : Nat) (a2 : (List (List (List api_Span)))) (k4 : ((List (List (List api_Span)))→Int→Option ((List (List (List api_Span)))×Int))) (a1 : (List (List (List api_Span)))) (a0 : Int) : Option ((List (List (List api_Span)))×Int) :=
  bif (decide (a0 < ((a2.length : Nat) : Int))) then ((getI a2 a0).bind fun a4 =>
  (fold_back F a4).bind fun a6 =>
  (apd 24 a1 ([a6])).bind fun a3 =>
  (ck (a0 + 1)).bind fun a5 =>
  k4 a3 a5) else (fold_Turn_K3 a1)
def fold_Turn_L4 (F : Nat) (a0 : (List (List (List api_Span)))) : Nat→(List (List (List api_Span)))→Int→Option ((List (List (List api_Span)))×Int)
  | 0,_,_=>none
  | n + 1,a1,a2=>fold_Turn_B4 F a0 (fold_Turn_L4 F a0 n) a1 a2
def fold_Turn_K2 (F : Nat) (p1 : Int) (p2 : Int) (a0 : (List (List (List api_Span)))) : Option ((List (List (List api_Span)))×Int) :=
  bif ((fold_limited p1 p2) != 0) then (some (([] : (List (List (List api_Span)))),(fold_limited p1 p2))) else ((fold_settle F a0 p1 p2).bind fun a1 =>
  fold_Turn_L4 F a1 F ([]) 0)
def fold_Turn_B5 (F : Nat) (p0 : (List (List (List api_Span)))) (p1 : Int) (p2 : Int) (k5 : ((List (List (List api_Span)))→Int→Option ((List (List (List api_Span)))×Int))) (a2 : (List (List (List api_Span)))) (a0 : Int) : Option ((List (List (List api_Span)))×Int) :=
  bif (decide (a0 < ((p0.length : Nat) : Int))) then ((getI p0 a0).bind fun a4 =>
  (fold_row F a4).bind fun a1 =>
  bif (a1.2 != 0) then (some (([] : (List (List (List api_Span)))),a1.2)) else ((apd 24 a2 ([a1.1])).bind fun a3 =>
  (ck (a0 + 1)).bind fun a5 =>
  k5 a3 a5)) else (fold_Turn_K2 F p1 p2 a2)
def fold_Turn_L5 (F : Nat) (p0 : (List (List (List api_Span)))) (p1 : Int) (p2 : Int) : Nat→(List (List (List api_Span)))→Int→Option ((List (List (List api_Span)))×Int)
  | 0,_,_=>none
  | n + 1,a0,a1=>fold_Turn_B5 F p0 p1 p2 (fold_Turn_L5 F p0 p1 p2 n) a0 a1
def fold_Turn_K1 (F : Nat) (p0 : (List (List (List api_Span)))) (p1 : Int) (p2 : Int) : Option ((List (List (List api_Span)))×Int) :=
  fold_Turn_L5 F p0 p1 p2 F ([]) 0
def fold_Turn_B6 (F : Nat) (p0 : (List (List (List api_Span)))) (p1 : Int) (p2 : Int) (k6 : (Int→Option ((List (List (List api_Span)))×Int))) (a0 : Int) : Option ((List (List (List api_Span)))×Int) :=
  bif (decide (a0 < ((p0.length : Nat) : Int))) then ((getI p0 a0).bind fun a1 =>
  (getI p0 0).bind fun a2 =>
  bif (((a1.length : Nat) : Int) != ((a2.length : Nat) : Int)) then (some (([] : (List (List (List api_Span)))),11)) else ((ck (a0 + 1)).bind fun a3 =>
  k6 a3)) else (fold_Turn_K1 F p0 p1 p2)
def fold_Turn_L6 (F : Nat) (p0 : (List (List (List api_Span)))) (p1 : Int) (p2 : Int) : Nat→Int→Option ((List (List (List api_Span)))×Int)
  | 0,_=>none
  | n + 1,a0=>fold_Turn_B6 F p0 p1 p2 (fold_Turn_L6 F p0 p1 p2 n) a0
def fold_Turn (F : Nat) (p0 : (List (List (List api_Span)))) (p1 : Int) (p2 : Int) : Option ((List (List (List api_Span)))×Int) :=
  bif (decide (((p0.length : Nat) : Int) > 360)) then (some (([] : (List (List (List api_Span)))),9)) else (fold_Turn_L6 F p0 p1 p2 F 0)
def law03_span (p0 : Int) (p1 : Int) : api_Span :=
  (api_Span.mk p0 p1)
def law03_made_K1 (a0 : (List (List api_Span))) : Option (List (List api_Span)) :=
  some a0
def law03_made_K3 (a1 : Int) (k2 : (Int→(List (List api_Span))→Option (List (List api_Span)))) (a0 : (List (List api_Span))) : Option (List (List api_Span)) :=
  (ck (a1 + 1)).bind fun a2 =>
  k2 a2 a0
def law03_made_K4 (a3 : Int) (a0 : (List (List api_Span))) (k2 : (Int→(List (List api_Span))→Option (List (List api_Span)))) (a1 : (List api_Span)) : Option (List (List api_Span)) :=
  (apd 24 a0 ([a1])).bind fun a2 =>
  law03_made_K3 a3 k2 a2
def law03_made_K6 (a1 : Int) (k5 : (Int→(List api_Span)→Int→Option (List (List api_Span)))) (a0 : (List api_Span)) (a2 : Int) : Option (List (List api_Span)) :=
  (ck (a1 + 1)).bind fun a3 =>
  k5 a3 a0 a2
def law03_made_B5 (a7 : Int) (a4 : (List (List api_Span))) (k2 : (Int→(List (List api_Span))→Option (List (List api_Span)))) (a5 : (List Int)) (k5 : (Int→(List api_Span)→Int→Option (List (List api_Span)))) (a1 : Int) (a0 : (List api_Span)) (a2 : Int) : Option (List (List api_Span)) :=
  bif (decide (a1 < ((a5.length : Nat) : Int))) then ((getI a5 a1).bind fun a6 =>
  bif (decide (a1 ≥ 6)) then (law03_made_K4 a7 a4 k2 a0) else ((remC a1 2).bind fun aD =>
  bif (aD == 0) then ((ck a6).bind fun aE =>
  (remC aE 12).bind fun aF =>
  (ck (1 + aF)).bind fun aG =>
  (ck (a2 + aG)).bind fun a3 =>
  (ck (a3 - 20)).bind fun aH =>
  (ck (a3 - 20)).bind fun aI =>
  (apd 16 a0 ([(law03_span aH aI)])).bind fun aA =>
  law03_made_K6 a1 k5 aA a3) else (bif (decide (((a0.length : Nat) : Int) > 0)) then ((ck a6).bind fun aJ =>
  (remC aJ 8).bind fun aK =>
  (ck (a2 + aK)).bind fun a8 =>
  (ck (((a0.length : Nat) : Int) - 1)).bind fun a9 =>
  (ck (a8 - 20)).bind fun aL =>
  (getI a0 a9).bind fun aC =>
  (setI a0 a9 (api_Span.mk aC.Lo aL)).bind fun aB =>
  law03_made_K6 a1 k5 aB a8) else (law03_made_K6 a1 k5 a0 a2)))) else (law03_made_K4 a7 a4 k2 a0)
def law03_made_L5 (a2 : Int) (a0 : (List (List api_Span))) (k2 : (Int→(List (List api_Span))→Option (List (List api_Span)))) (a1 : (List Int)) : Nat→Int→(List api_Span)→Int→Option (List (List api_Span))
  | 0,_,_,_=>none
  | n + 1,a4,a3,a5=>law03_made_B5 a2 a0 k2 a1 (law03_made_L5 a2 a0 k2 a1 n) a4 a3 a5
def law03_made_B2 (F : Nat) (p0 : (List (List Int))) (k2 : (Int→(List (List api_Span))→Option (List (List api_Span)))) (a0 : Int) (a1 : (List (List api_Span))) : Option (List (List api_Span)) :=
  bif (decide (a0 < ((p0.length : Nat) : Int))) then ((getI p0 a0).bind fun a2 =>
  law03_made_L5 a0 a1 k2 a2 F 0 ([]) 0) else (law03_made_K1 a1)
def law03_made_L2 (F : Nat) (p0 : (List (List Int))) : Nat→Int→(List (List api_Span))→Option (List (List api_Span))
  | 0,_,_=>none
  | n + 1,a1,a0=>law03_made_B2 F p0 (law03_made_L2 F p0 n) a1 a0
def law03_made (F : Nat) (p0 : (List (List Int))) : Option (List (List api_Span)) :=
  law03_made_L2 F p0 F 0 ([])
def law03_fewer_K1 (a0 : (List api_Span)) : Option (List api_Span) :=
  some a0
def law03_fewer_K3 (a1 : Int) (k2 : (Int→(List api_Span)→Option (List api_Span))) (a0 : (List api_Span)) : Option (List api_Span) :=
  (ck (a1 + 1)).bind fun a2 =>
  k2 a2 a0
def law03_fewer_K4 (p0 : (List api_Span)) (a2 : Int) (a1 : (List api_Span)) (k2 : (Int→(List api_Span)→Option (List api_Span))) (a0 : api_Span) (a4 : Int) : Option (List api_Span) :=
  (remC a4 3).bind fun a3 =>
  (gd (((a3 == 0) == true && true)) (ck (((a1.length : Nat) : Int) + ((p0.length : Nat) : Int))) 0).bind fun a7 =>
  (gd (((a3 == 0) == true && true)) (ck (a7 - a2)) 0).bind fun a8 =>
  bif (bif (a3 == 0) then (decide (a8 > 1)) else false) then (law03_fewer_K3 a2 k2 a1) else ((remC a4 4).bind fun a9 =>
  (ck (a0.Lo + a9)).bind fun a5 =>
  (apd 16 a1 ([(api_Span.mk (if a5 < a0.Hi then a5 else a0.Hi) a0.Hi)])).bind fun a6 =>
  law03_fewer_K3 a2 k2 a6)
def law03_fewer_B2 (p0 : (List api_Span)) (p1 : (List Int)) (p2 : Int) (k2 : (Int→(List api_Span)→Option (List api_Span))) (a0 : Int) (a1 : (List api_Span)) : Option (List api_Span) :=
  bif (decide (a0 < ((p0.length : Nat) : Int))) then ((getI p0 a0).bind fun a2 =>
  bif (decide (((p1.length : Nat) : Int) > 0)) then ((ck (p2 + a0)).bind fun a4 =>
  (remC a4 ((p1.length : Nat) : Int)).bind fun a5 =>
  (getI p1 a5).bind fun a3 =>
  (ck a3).bind fun a6 =>
  law03_fewer_K4 p0 a0 a1 k2 a2 a6) else (law03_fewer_K4 p0 a0 a1 k2 a2 0)) else (law03_fewer_K1 a1)
def law03_fewer_L2 (p0 : (List api_Span)) (p1 : (List Int)) (p2 : Int) : Nat→Int→(List api_Span)→Option (List api_Span)
  | 0,_,_=>none
  | n + 1,a1,a0=>law03_fewer_B2 p0 p1 p2 (law03_fewer_L2 p0 p1 p2 n) a1 a0
def law03_fewer (F : Nat) (p0 : (List api_Span)) (p1 : (List Int)) (p2 : Int) : Option (List api_Span) :=
  law03_fewer_L2 p0 p1 p2 F 0 ([])
def law03_inside_K1 : Option Bool :=
  some true
def law03_inside_K3 (a0 : Int) (k2 : (Int→Option Bool)) : Option Bool :=
  (ck (a0 + 1)).bind fun a1 =>
  k2 a1
def law03_inside_K4 (a1 : Int) (k2 : (Int→Option Bool)) (a0 : Bool) : Option Bool :=
  bif (!a0) then (some false) else (law03_inside_K3 a1 k2)
def law03_inside_B5 (p1 : (List api_Span)) (a4 : Int) (k2 : (Int→Option Bool)) (a2 : api_Span) (k5 : (Int→Bool→Option Bool)) (a0 : Int) (a1 : Bool) : Option Bool :=
  bif (decide (a0 < ((p1.length : Nat) : Int))) then ((getI p1 a0).bind fun a3 =>
  (ck (a0 + 1)).bind fun a5 =>
  k5 a5 (bif a1 then true else (bif (decide (a2.Lo ≥ a3.Lo)) then (decide (a2.Hi≤a3.Hi)) else false))) else (law03_inside_K4 a4 k2 a1)
def law03_inside_L5 (p1 : (List api_Span)) (a1 : Int) (k2 : (Int→Option Bool)) (a0 : api_Span) : Nat→Int→Bool→Option Bool
  | 0,_,_=>none
  | n + 1,a3,a2=>law03_inside_B5 p1 a1 k2 a0 (law03_inside_L5 p1 a1 k2 a0 n) a3 a2
def law03_inside_B2 (F : Nat) (p0 : (List api_Span)) (p1 : (List api_Span)) (k2 : (Int→Option Bool)) (a0 : Int) : Option Bool :=
  bif (decide (a0 < ((p0.length : Nat) : Int))) then ((getI p0 a0).bind fun a1 =>
  law03_inside_L5 p1 a0 k2 a1 F 0 false) else (law03_inside_K1)
def law03_inside_L2 (F : Nat) (p0 : (List api_Span)) (p1 : (List api_Span)) : Nat→Int→Option Bool
  | 0,_=>none
  | n + 1,a0=>law03_inside_B2 F p0 p1 (law03_inside_L2 F p0 p1 n) a0
def law03_inside (F : Nat) (p0 : (List api_Span)) (p1 : (List api_Span)) : Option Bool :=
  law03_inside_L2 F p0 p1 F 0
def law03_FoldFewer_K3 : Option Bool :=
  some law03_works
def law03_FoldFewer_B4 (F : Nat) (a1 : ((List (List (List api_Span)))×Int)) (a5 : ((List (List (List api_Span)))×Int)) (k4 : (Int→Option Bool)) (a0 : Int) : Option Bool :=
  bif (decide (a0 < ((a1.1.length : Nat) : Int))) then ((getI a5.1 a0).bind fun a2 =>
  (getI a1.1 a0).bind fun a3 =>
  (law03_sets F a2 a3).bind fun a6 =>
  bif (!a6) then (some false) else ((ck (a0 + 1)).bind fun a4 =>
  k4 a4)) else (law03_FoldFewer_K3)
def law03_FoldFewer_L4 (F : Nat) (a0 : ((List (List (List api_Span)))×Int)) (a1 : ((List (List (List api_Span)))×Int)) : Nat→Int→Option Bool
  | 0,_=>none
  | n + 1,a2=>law03_FoldFewer_B4 F a0 a1 (law03_FoldFewer_L4 F a0 a1 n) a2
def law03_FoldFewer_K2 (F : Nat) (a3 : Int) (a4 : Int) (a0 : ((List (List (List api_Span)))×Int)) (a2 : Bool) : Option Bool :=
  bif a2 then (some law03_works) else ((fold_Turn F a0.1 a3 a4).bind fun a1 =>
  bif (bif (a1.2 != 0) then true else (((a1.1.length : Nat) : Int) != ((a0.1.length : Nat) : Int))) then (some false) else (law03_FoldFewer_L4 F a0 a1 F 0))
def law03_FoldFewer_K6 (a1 : Int) (k5 : (Int→Bool→Option Bool)) (a0 : Bool) : Option Bool :=
  (ck (a1 + 1)).bind fun a2 =>
  k5 a2 a0
def law03_FoldFewer_B7 (F : Nat) (aD : Int) (a4 : (List (List (List api_Span)))) (a3 : ((List (List (List api_Span)))×Int)) (aH : ((List (List (List api_Span)))×Int)) (a1 : Int) (k5 : (Int→Bool→Option Bool)) (k7 : (Int→Bool→Option Bool)) (a0 : Int) (a2 : Bool) : Option Bool :=
  bif (decide (a0 < aD)) then ((getI aH.1 a1).bind fun a5 =>
  (getI a5 a0).bind fun a6 =>
  (getI a3.1 a1).bind fun a7 =>
  (getI a7 a0).bind fun a8 =>
  (law03_inside F a6 a8).bind fun aI =>
  bif (!aI) then (some false) else (bif a2 then ((ck (a0 + 1)).bind fun aE =>
  k7 aE true) else ((getI a4 a1).bind fun a9 =>
  (getI a9 a0).bind fun aA =>
  bif (decide (((aA.length : Nat) : Int) > 0)) then ((getI a3.1 a1).bind fun aB =>
  (getI aB a0).bind fun aC =>
  (ck (a0 + 1)).bind fun aF =>
  k7 aF (((aC.length : Nat) : Int) == 0)) else ((ck (a0 + 1)).bind fun aG =>
  k7 aG false)))) else (law03_FoldFewer_K6 a1 k5 a2)
def law03_FoldFewer_L7 (F : Nat) (a1 : Int) (a0 : (List (List (List api_Span)))) (a3 : ((List (List (List api_Span)))×Int)) (a4 : ((List (List (List api_Span)))×Int)) (a2 : Int) (k5 : (Int→Bool→Option Bool)) : Nat→Int→Bool→Option Bool
  | 0,_,_=>none
  | n + 1,a6,a5=>law03_FoldFewer_B7 F a1 a0 a3 a4 a2 k5 (law03_FoldFewer_L7 F a1 a0 a3 a4 a2 k5 n) a6 a5
def law03_FoldFewer_B5 (F : Nat) (a2 : Int) (a5 : (List (List (List api_Span)))) (a8 : Int) (a9 : Int) (a1 : ((List (List (List api_Span)))×Int)) (a4 : ((List (List (List api_Span)))×Int)) (k5 : (Int→Bool→Option Bool)) (a0 : Int) (a3 : Bool) : Option Bool :=
  bif (decide (a0 < ((a1.1.length : Nat) : Int))) then ((getI a1.1 a0).bind fun a6 =>
  bif (((a6.length : Nat) : Int) != a2) then (some false) else ((getI a4.1 a0).bind fun a7 =>
  bif (((a7.length : Nat) : Int) != a2) then (some false) else (law03_FoldFewer_L7 F a2 a5 a1 a4 a0 k5 F 0 a3))) else (law03_FoldFewer_K2 F a8 a9 a1 a3)
def law03_FoldFewer_L5 (F : Nat) (a1 : Int) (a0 : (List (List (List api_Span)))) (a2 : Int) (a3 : Int) (a4 : ((List (List (List api_Span)))×Int)) (a5 : ((List (List (List api_Span)))×Int)) : Nat→Int→Bool→Option Bool
  | 0,_,_=>none
  | n + 1,a7,a6=>law03_FoldFewer_B5 F a1 a0 a2 a3 a4 a5 (law03_FoldFewer_L5 F a1 a0 a2 a3 a4 a5 n) a7 a6
def law03_FoldFewer_K1 (F : Nat) (p2 : (Int×Int)) (p3 : (Int×Int)) (a7 : Int) (a0 : (List (List (List api_Span)))) (a6 : (List (List (List api_Span)))) : Option Bool :=
  (ck p2.1).bind fun a8 =>
  (remC a8 13).bind fun a1 =>
  (ck p3.1).bind fun a9 =>
  (remC a9 3).bind fun aA =>
  (ck (1 + aA)).bind fun a2 =>
  (ck p2.2).bind fun aB =>
  (remC aB 5).bind fun aC =>
  (ck (a1 - aC)).bind fun a5 =>
  (ck p3.2).bind fun aD =>
  (remC aD 3).bind fun aE =>
  (ck (a2 + aE)).bind fun aF =>
  (fold_Turn F a0 a1 a2).bind fun a3 =>
  (fold_Turn F a6 (if a5 > 0 then a5 else 0) aF).bind fun a4 =>
  bif (bif (bif (bif (a3.2 != 0) then true else (a4.2 != 0)) then true else (((a3.1.length : Nat) : Int) != ((a0.length : Nat) : Int))) then true else (((a4.1.length : Nat) : Int) != ((a0.length : Nat) : Int))) then (some false) else (law03_FoldFewer_L5 F a7 a0 a1 a2 a3 a4 F 0 false)
def law03_FoldFewer_K9 (a2 : Int) (k8 : ((List (List (List api_Span)))→(List (List (List api_Span)))→Int→Option Bool)) (a0 : (List (List (List api_Span)))) (a1 : (List (List (List api_Span)))) : Option Bool :=
  (ck (a2 + 1)).bind fun a3 =>
  k8 a0 a1 a3
def law03_FoldFewer_K11 (a3 : (List (List (List api_Span)))) (a4 : (List (List (List api_Span)))) (a5 : Int) (k8 : ((List (List (List api_Span)))→(List (List (List api_Span)))→Int→Option Bool)) (a6 : (List (List api_Span))) (a0 : (List (List api_Span))) : Option Bool :=
  (apd 24 a3 ([a6])).bind fun a1 =>
  (apd 24 a4 ([a0])).bind fun a2 =>
  law03_FoldFewer_K9 a5 k8 a1 a2
def law03_FoldFewer_B12 (F : Nat) (p4 : (List Int)) (aC : Int) (a6 : (List (List (List api_Span)))) (a7 : (List (List (List api_Span)))) (a3 : Int) (k8 : ((List (List (List api_Span)))→(List (List (List api_Span)))→Int→Option Bool)) (a1 : (List (List api_Span))) (a4 : ((List (List api_Span))→Int→Option Bool)) (a2 : (List (List api_Span))) (a0 : Int) : Option Bool :=
  bif (decide (a0 < ((a1.length : Nat) : Int))) then ((getI a1 a0).bind fun a8 =>
  (ck (a3 * aC)).bind fun a9 =>
  (ck (a9 + a0)).bind fun aA =>
  (law03_fewer F a8 p4 aA).bind fun aD =>
  (apd 24 a2 ([aD])).bind fun a5 =>
  (ck (a0 + 1)).bind fun aB =>
  a4 a5 aB) else (law03_FoldFewer_K11 a6 a7 a3 k8 a1 a2)
def law03_FoldFewer_L12 (F : Nat) (p4 : (List Int)) (a2 : Int) (a0 : (List (List (List api_Span)))) (a1 : (List (List (List api_Span)))) (a3 : Int) (k8 : ((List (List (List api_Span)))→(List (List (List api_Span)))→Int→Option Bool)) (a4 : (List (List api_Span))) : Nat→(List (List api_Span))→Int→Option Bool
  | 0,_,_=>none
  | n + 1,a5,a6=>law03_FoldFewer_B12 F p4 a2 a0 a1 a3 k8 a4 (law03_FoldFewer_L12 F p4 a2 a0 a1 a3 k8 a4 n) a5 a6
def law03_FoldFewer_K10 (F : Nat) (p4 : (List Int)) (a3 : Int) (a1 : (List (List (List api_Span)))) (a2 : (List (List (List api_Span)))) (a4 : Int) (k8 : ((List (List (List api_Span)))→(List (List (List api_Span)))→Int→Option Bool)) (a0 : (List (List Int))) : Option Bool :=
  (law03_made F a0).bind fun a5 =>
  law03_FoldFewer_L12 F p4 a3 a1 a2 a4 k8 a5 F ([]) 0
def law03_FoldFewer_K14 (a1 : (List (List Int))) (a4 : Int) (a0 : ((List (List Int))→Int→Option Bool)) (a2 : (List Int)) : Option Bool :=
  (apd 24 a1 ([a2])).bind fun a3 =>
  (ck (a4 + 1)).bind fun a5 =>
  a0 a3 a5
def law03_FoldFewer_B13 (F : Nat) (p0 : (List (List (List Int)))) (p4 : (List Int)) (a4 : Int) (a5 : (List (List (List api_Span)))) (a6 : (List (List (List api_Span)))) (a2 : Int) (k8 : ((List (List (List api_Span)))→(List (List (List api_Span)))→Int→Option Bool)) (a3 : ((List (List Int))→Int→Option Bool)) (a1 : (List (List Int))) (a0 : Int) : Option Bool :=
  bif (decide (a0 < a4)) then ((getI p0 a2).bind fun a7 =>
  bif (decide (a0 < ((a7.length : Nat) : Int))) then ((getI p0 a2).bind fun a8 =>
  (getI a8 a0).bind fun a9 =>
  law03_FoldFewer_K14 a1 a0 a3 a9) else (law03_FoldFewer_K14 a1 a0 a3 ([]))) else (law03_FoldFewer_K10 F p4 a4 a5 a6 a2 k8 a1)
def law03_FoldFewer_L13 (F : Nat) (p0 : (List (List (List Int)))) (p4 : (List Int)) (a2 : Int) (a0 : (List (List (List api_Span)))) (a1 : (List (List (List api_Span)))) (a3 : Int) (k8 : ((List (List (List api_Span)))→(List (List (List api_Span)))→Int→Option Bool)) : Nat→(List (List Int))→Int→Option Bool
  | 0,_,_=>none
  | n + 1,a4,a5=>law03_FoldFewer_B13 F p0 p4 a2 a0 a1 a3 k8 (law03_FoldFewer_L13 F p0 p4 a2 a0 a1 a3 k8 n) a4 a5
def law03_FoldFewer_B8 (F : Nat) (p0 : (List (List (List Int)))) (p2 : (Int×Int)) (p3 : (Int×Int)) (p4 : (List Int)) (a2 : Int) (k8 : ((List (List (List api_Span)))→(List (List (List api_Span)))→Int→Option Bool)) (a0 : (List (List (List api_Span)))) (a1 : (List (List (List api_Span)))) (a3 : Int) : Option Bool :=
  bif (decide (a3 < ((p0.length : Nat) : Int))) then (law03_FoldFewer_L13 F p0 p4 a2 a0 a1 a3 k8 F ([]) 0) else (law03_FoldFewer_K1 F p2 p3 a2 a0 a1)
def law03_FoldFewer_L8 (F : Nat) (p0 : (List (List (List Int)))) (p2 : (Int×Int)) (p3 : (Int×Int)) (p4 : (List Int)) (a0 : Int) : Nat→(List (List (List api_Span)))→(List (List (List api_Span)))→Int→Option Bool
  | 0,_,_,_=>none
  | n + 1,a1,a2,a3=>law03_FoldFewer_B8 F p0 p2 p3 p4 a0 (law03_FoldFewer_L8 F p0 p2 p3 p4 a0 n) a1 a2 a3
def law03_FoldFewer (F : Nat) (p0 : (List (List (List Int)))) (p1 : Int) (p2 : (Int×Int)) (p3 : (Int×Int)) (p4 : (List Int)) : Option Bool :=
  bif (bif (decide (((p0.length : Nat) : Int) < 1)) then true else (decide (((p0.length : Nat) : Int) > 4))) then (some law03_works) else ((ck p1).bind fun a0 =>
  (remC a0 3).bind fun a1 =>
  (ck (1 + a1)).bind fun a2 =>
  law03_FoldFewer_L8 F p0 p2 p3 p4 a2 F ([]) ([]) 0)
end Go.Proofs.Ytbhjgebjojdohaa
