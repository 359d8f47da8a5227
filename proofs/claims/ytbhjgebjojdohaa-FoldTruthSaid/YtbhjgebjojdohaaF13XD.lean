import Derived.Test.YtbhjgebjojdohaaF13EB
namespace Go.Proofs.Ytbhjgebjojdohaa
open Go Go.RowKit Go.Eng
set_option maxRecDepth 10000
set_option maxHeartbeats 4000000
set_option linter.unusedVariables false
set_option linter.unusedSimpArgs false
structure pulse_Train where
  Lambda:Int
  Kind:Int
  First:Int
  Second:Int
  Count:Int
  deriving Inhabited,DecidableEq
def pulse_Train.cells (x:pulse_Train):List Value:=[.int .i64 x.Lambda,.int .i64 x.Kind,.int .i64 x.First,.int .i64 x.Second,.int .i64 x.Count]
structure api_Span where
  Lo:Int
  Hi:Int
  deriving Inhabited,DecidableEq
def api_Span.cells (x:api_Span):List Value:=[.int .i64 x.Lo,.int .i64 x.Hi]
theorem api_Span.cells_len (x:api_Span):(api_Span.cells x).length=2:=rfl
structure api_Echo where
  Kind:Int
  Power:api_Span
  Steps:(api_Span×api_Span)
  Spread:Int
  Ratio:api_Span
  Match:api_Span
  Turn:api_Span
  deriving Inhabited,DecidableEq
def api_Echo.cells (x:api_Echo):List Value:=[.int .i64 x.Kind,.int .i64 x.Power.Lo,.int .i64 x.Power.Hi,.int .i64 x.Steps.1.Lo,.int .i64 x.Steps.1.Hi,.int .i64 x.Steps.2.Lo,.int .i64 x.Steps.2.Hi,.int .i64 x.Spread,.int .i64 x.Ratio.Lo,.int .i64 x.Ratio.Hi,.int .i64 x.Match.Lo,.int .i64 x.Match.Hi,.int .i64 x.Turn.Lo,.int .i64 x.Turn.Hi]
theorem api_Echo.cells_len (x:api_Echo):(api_Echo.cells x).length=14:=rfl
structure fold_option where
  whole:Int
  speed:api_Span
  deriving Inhabited,DecidableEq
def fold_option.cells (x:fold_option):List Value:=[.int .i64 x.whole,.int .i64 x.speed.Lo,.int .i64 x.speed.Hi]
theorem fold_option.cells_len (x:fold_option):(fold_option.cells x).length=3:=rfl
structure fold_Guess where
  Whole:(Int×Int)
  Speed:api_Span
  deriving Inhabited,DecidableEq
def fold_Guess.cells (x:fold_Guess):List Value:=[.int .i64 x.Whole.1,.int .i64 x.Whole.2,.int .i64 x.Speed.Lo,.int .i64 x.Speed.Hi]
theorem fold_Guess.cells_len (x:fold_Guess):(fold_Guess.cells x).length=4:=rfl
structure ref02_Train where
  Lambda:Int
  Kind:Int
  First:Int
  Second:Int
  Count:Int
  deriving Inhabited,DecidableEq
def ref02_Train.cells (x:ref02_Train):List Value:=[.int .i64 x.Lambda,.int .i64 x.Kind,.int .i64 x.First,.int .i64 x.Second,.int .i64 x.Count]
structure ref03_Guess where
  Whole:(Int×Int)
  Speed:api_Span
  deriving Inhabited,DecidableEq
def ref03_Guess.cells (x:ref03_Guess):List Value:=[.int .i64 x.Whole.1,.int .i64 x.Whole.2,.int .i64 x.Speed.Lo,.int .i64 x.Speed.Hi]
structure fold_place where
  ray:Int
  gate:Int
  deriving Inhabited,DecidableEq
def fold_place.cells (x:fold_place):List Value:=[.int .i64 x.ray,.int .i64 x.gate]
theorem fold_place.cells_len (x:fold_place):(fold_place.cells x).length=2:=rfl
structure fold_bond where
  to:fold_place
  most:Int
  deriving Inhabited,DecidableEq
def fold_bond.cells (x:fold_bond):List Value:=[.int .i64 x.to.ray,.int .i64 x.to.gate,.int .i64 x.most]
theorem fold_bond.cells_len (x:fold_bond):(fold_bond.cells x).length=3:=rfl
structure fold_web where
  sets:(List (List (List api_Span)))
  bonds:(List (fold_place×(List fold_bond)))
  deriving Inhabited,DecidableEq
structure ref03_Place where
  Ray:Int
  Gate:Int
  deriving Inhabited,DecidableEq
def ref03_Place.cells (x:ref03_Place):List Value:=[.int .i64 x.Ray,.int .i64 x.Gate]
structure ref03_Link where
  A:ref03_Place
  B:ref03_Place
  Most:Int
  deriving Inhabited,DecidableEq
def ref03_Link.cells (x:ref03_Link):List Value:=[.int .i64 x.A.Ray,.int .i64 x.A.Gate,.int .i64 x.B.Ray,.int .i64 x.B.Gate,.int .i64 x.Most]
structure law03_Air where
  Kind:Int
  Lambda:Int
  First:Int
  Second:Int
  Rose:Int
  Gates:Int
  Base:Int
  Speeds:(List Int)
  Blank:Int
  Less:(List Int)
  More:(List Int)
  Jump:Int
  deriving Inhabited,DecidableEq
structure api_Site where
  Name:ByteArray
  X:Int
  Y:Int
  Z:Int
  Rose:Int
  Gates:Int
  Step:Int
  Width:Int
  deriving Inhabited,DecidableEq
def api_Site.cells (x:api_Site):List Value:=[.string x.Name,.int .i64 x.X,.int .i64 x.Y,.int .i64 x.Z,.int .i64 x.Rose,.int .i64 x.Gates,.int .i64 x.Step,.int .i64 x.Width]
structure api_Sweep where
  Site:api_Site
  Tilt:Int
  Time:Int
  Rays:(List (List api_Echo))
  deriving Inhabited,DecidableEq
structure fold_Found where
  State:Int
  Guesses:(List fold_Guess)
  deriving Inhabited,DecidableEq
abbrev pulse_Train.ar (x:pulse_Train):Array Value:=#[.int .i64 x.Lambda,.int .i64 x.Kind,.int .i64 x.First,.int .i64 x.Second,.int .i64 x.Count]
abbrev pulse_Train.ag (x:pulse_Train):Value:=.agg #[.int .i64 x.Lambda,.int .i64 x.Kind,.int .i64 x.First,.int .i64 x.Second,.int .i64 x.Count]
abbrev api_Echo.ar (x:api_Echo):Array Value:=#[.int .i64 x.Kind,.int .i64 x.Power.Lo,.int .i64 x.Power.Hi,.int .i64 x.Steps.1.Lo,.int .i64 x.Steps.1.Hi,.int .i64 x.Steps.2.Lo,.int .i64 x.Steps.2.Hi,.int .i64 x.Spread,.int .i64 x.Ratio.Lo,.int .i64 x.Ratio.Hi,.int .i64 x.Match.Lo,.int .i64 x.Match.Hi,.int .i64 x.Turn.Lo,.int .i64 x.Turn.Hi]
abbrev api_Echo.ag (x:api_Echo):Value:=.agg #[.int .i64 x.Kind,.int .i64 x.Power.Lo,.int .i64 x.Power.Hi,.int .i64 x.Steps.1.Lo,.int .i64 x.Steps.1.Hi,.int .i64 x.Steps.2.Lo,.int .i64 x.Steps.2.Hi,.int .i64 x.Spread,.int .i64 x.Ratio.Lo,.int .i64 x.Ratio.Hi,.int .i64 x.Match.Lo,.int .i64 x.Match.Hi,.int .i64 x.Turn.Lo,.int .i64 x.Turn.Hi]
abbrev fold_option.ar (x:fold_option):Array Value:=#[.int .i64 x.whole,.int .i64 x.speed.Lo,.int .i64 x.speed.Hi]
abbrev fold_option.ag (x:fold_option):Value:=.agg #[.int .i64 x.whole,.int .i64 x.speed.Lo,.int .i64 x.speed.Hi]
abbrev fold_Guess.ar (x:fold_Guess):Array Value:=#[.int .i64 x.Whole.1,.int .i64 x.Whole.2,.int .i64 x.Speed.Lo,.int .i64 x.Speed.Hi]
abbrev fold_Guess.ag (x:fold_Guess):Value:=.agg #[.int .i64 x.Whole.1,.int .i64 x.Whole.2,.int .i64 x.Speed.Lo,.int .i64 x.Speed.Hi]
abbrev fold_bond.ar (x:fold_bond):Array Value:=#[.int .i64 x.to.ray,.int .i64 x.to.gate,.int .i64 x.most]
abbrev fold_bond.ag (x:fold_bond):Value:=.agg #[.int .i64 x.to.ray,.int .i64 x.to.gate,.int .i64 x.most]
abbrev api_Site.ar (x:api_Site):Array Value:=#[.string x.Name,.int .i64 x.X,.int .i64 x.Y,.int .i64 x.Z,.int .i64 x.Rose,.int .i64 x.Gates,.int .i64 x.Step,.int .i64 x.Width]
abbrev api_Site.ag (x:api_Site):Value:=.agg #[.string x.Name,.int .i64 x.X,.int .i64 x.Y,.int .i64 x.Z,.int .i64 x.Rose,.int .i64 x.Gates,.int .i64 x.Step,.int .i64 x.Width]
abbrev law03_Air.ax (x:law03_Air) (adg1_:Option Addr) (capg2_:Nat) (adg3_:Option Addr) (capg4_:Nat) (adg5_:Option Addr) (capg6_:Nat):Array Value:=#[.int .u8 x.Kind,.int .u8 x.Lambda,.int .u16 x.First,.int .u16 x.Second,.int .u8 x.Rose,.int .u8 x.Gates,.int .i16 x.Base,.slice adg1_ x.Speeds.length capg2_,.int .u32 x.Blank,.slice adg3_ x.Less.length capg4_,.slice adg5_ x.More.length capg6_,.int .u16 x.Jump]
abbrev api_Sweep.ax (x:api_Sweep) (adg1_:Option Addr) (capg2_:Nat):Array Value:=#[.string x.Site.Name,.int .i64 x.Site.X,.int .i64 x.Site.Y,.int .i64 x.Site.Z,.int .i64 x.Site.Rose,.int .i64 x.Site.Gates,.int .i64 x.Site.Step,.int .i64 x.Site.Width,.int .i64 x.Tilt,.int .i64 x.Time,.slice adg1_ x.Rays.length capg2_]
abbrev pulse_Train.e0 (x:pulse_Train):Bool:=(((x.Lambda:Int)==0)&&(((x.Kind:Int)==0)&&(((x.First:Int)==0)&&(((x.Second:Int)==0)&&(((x.Count:Int)==0)&&true)))))
abbrev api_Echo.e0 (x:api_Echo):Bool:=(((x.Kind:Int)==0)&&(((x.Power.Lo:Int)==0)&&(((x.Power.Hi:Int)==0)&&(((x.Steps.1.Lo:Int)==0)&&(((x.Steps.1.Hi:Int)==0)&&(((x.Steps.2.Lo:Int)==0)&&(((x.Steps.2.Hi:Int)==0)&&(((x.Spread:Int)==0)&&(((x.Ratio.Lo:Int)==0)&&(((x.Ratio.Hi:Int)==0)&&(((x.Match.Lo:Int)==0)&&(((x.Match.Hi:Int)==0)&&(((x.Turn.Lo:Int)==0)&&(((x.Turn.Hi:Int)==0)&&true))))))))))))))
abbrev fold_option.e0 (x:fold_option):Bool:=(((x.whole:Int)==0)&&(((x.speed.Lo:Int)==0)&&(((x.speed.Hi:Int)==0)&&true)))
abbrev fold_Guess.e0 (x:fold_Guess):Bool:=(((x.Whole.1:Int)==0)&&(((x.Whole.2:Int)==0)&&(((x.Speed.Lo:Int)==0)&&(((x.Speed.Hi:Int)==0)&&true))))
abbrev ref02_Train.e0 (x:ref02_Train):Bool:=(((x.Lambda:Int)==0)&&(((x.Kind:Int)==0)&&(((x.First:Int)==0)&&(((x.Second:Int)==0)&&(((x.Count:Int)==0)&&true)))))
abbrev ref03_Guess.e0 (x:ref03_Guess):Bool:=(((x.Whole.1:Int)==0)&&(((x.Whole.2:Int)==0)&&(((x.Speed.Lo:Int)==0)&&(((x.Speed.Hi:Int)==0)&&true))))
abbrev fold_bond.e0 (x:fold_bond):Bool:=(((x.to.ray:Int)==0)&&(((x.to.gate:Int)==0)&&(((x.most:Int)==0)&&true)))
abbrev ref03_Link.e0 (x:ref03_Link):Bool:=(((x.A.Ray:Int)==0)&&(((x.A.Gate:Int)==0)&&(((x.B.Ray:Int)==0)&&(((x.B.Gate:Int)==0)&&(((x.Most:Int)==0)&&true)))))
abbrev api_Site.e0 (x:api_Site):Bool:=((x.Name==ByteArray.empty)&&(((x.X:Int)==0)&&(((x.Y:Int)==0)&&(((x.Z:Int)==0)&&(((x.Rose:Int)==0)&&(((x.Gates:Int)==0)&&(((x.Step:Int)==0)&&(((x.Width:Int)==0)&&true))))))))
abbrev z28:Array Value:=#[.int .i64 0,.int .i64 0,.int .i64 0,.int .i64 0,.int .i64 0,.int .i64 0,.int .i64 0,.int .i64 0,.int .i64 0,.int .i64 0,.int .i64 0,.int .i64 0,.int .i64 0,.int .i64 0]
abbrev Px:Array Value:=#[.string ByteArray.empty,.int .i64 0,.int .i64 0,.int .i64 0,.int .i64 0,.int .i64 0,.int .i64 0,.int .i64 0,.int .i64 0,.int .i64 0,.slice none 0 0]
abbrev z33:Array Value:=#[.int .i64 0,.int .i64 0,.int .i64 0,.int .i64 0,.int .i64 0]
abbrev z79:Array Value:=#[.int .i64 0,.int .i64 0,.int .i64 0,.int .i64 0]
def Rp43:Rel (List api_Span):=fun μ cs x=>∃(ad1:Option Addr) (cap2:Nat),cs=[.slice ad1 x.length cap2]∧ArrM μ 2 api_Span.cells ad1 cap2 x
theorem Rp43.mono:Rel.Mono Rp43:=by
  intro μ ν cs x hle h;obtain ⟨ad1,cap2,rfl,f0⟩:=h;exact ⟨ad1,cap2,rfl,f0.mono hle⟩
def Rp132:Rel (List api_Span):=fun μ cs x=>∃(ad1:Option Addr) (cap2:Nat),cs=[.slice ad1 x.length cap2]∧ArrM μ 2 api_Span.cells ad1 cap2 x
theorem Rp132.mono:Rel.Mono Rp132:=by
  intro μ ν cs x hle h;obtain ⟨ad1,cap2,rfl,f0⟩:=h;exact ⟨ad1,cap2,rfl,f0.mono hle⟩
theorem Rp132.one:Rel.One 1 Rp132:=by
  intro μ cs x h;obtain ⟨ad1,cap2,rfl,f0⟩:=h
  all_goals rfl
def Rp135:Rel (List (List api_Span)):=fun μ cs x=>∃(ad1:Option Addr) (cap2:Nat) (css3:List (List Value)),cs=[.slice ad1 x.length cap2]∧ArrQ μ 1 Rp132 ad1 cap2 css3 x
theorem Rp135.mono:Rel.Mono Rp135:=by
  intro μ ν cs x hle h;obtain ⟨ad1,cap2,css3,rfl,f0⟩:=h;exact ⟨ad1,cap2,css3,rfl,f0.mono Rp132.mono hle⟩
def Rp48:Rel (List (List api_Span)):=fun μ cs x=>∃(ad1:Option Addr) (cap2:Nat) (css3:List (List Value)),cs=[.slice ad1 x.length cap2]∧ArrQ μ 1 Rp43 ad1 cap2 css3 x
theorem Rp48.mono:Rel.Mono Rp48:=by
  intro μ ν cs x hle h;obtain ⟨ad1,cap2,css3,rfl,f0⟩:=h;exact ⟨ad1,cap2,css3,rfl,f0.mono Rp43.mono hle⟩
def Rp116:Rel (List api_Echo):=fun μ cs x=>∃(ad1:Option Addr) (cap2:Nat),cs=[.slice ad1 x.length cap2]∧ArrM μ 14 api_Echo.cells ad1 cap2 x
theorem Rp116.mono:Rel.Mono Rp116:=by
  intro μ ν cs x hle h;obtain ⟨ad1,cap2,rfl,f0⟩:=h;exact ⟨ad1,cap2,rfl,f0.mono hle⟩
theorem Rp116.one:Rel.One 1 Rp116:=by
  intro μ cs x h;obtain ⟨ad1,cap2,rfl,f0⟩:=h
  all_goals rfl
def Rp60:Rel (List Int):=fun μ cs x=>∃(ad1:Option Addr) (cap2:Nat),cs=[.slice ad1 x.length cap2]∧ArrM μ 1 fI ad1 cap2 x
theorem Rp60.mono:Rel.Mono Rp60:=by
  intro μ ν cs x hle h;obtain ⟨ad1,cap2,rfl,f0⟩:=h;exact ⟨ad1,cap2,rfl,f0.mono hle⟩
theorem Rp60.one:Rel.One 1 Rp60:=by
  intro μ cs x h;obtain ⟨ad1,cap2,rfl,f0⟩:=h
  all_goals rfl
def Rp29:Rel (List fold_Guess):=fun μ cs x=>∃(ad1:Option Addr) (cap2:Nat),cs=[.slice ad1 x.length cap2]∧ArrM μ 4 fold_Guess.cells ad1 cap2 x
theorem Rp29.mono:Rel.Mono Rp29:=by
  intro μ ν cs x hle h;obtain ⟨ad1,cap2,rfl,f0⟩:=h;exact ⟨ad1,cap2,rfl,f0.mono hle⟩
def Rp115:Rel fold_Found:=fun μ cs x=>∃(ad1:Option Addr) (cap2:Nat),cs=[.int .i64 x.State,.slice ad1 x.Guesses.length cap2]∧ArrM μ 4 fold_Guess.cells ad1 cap2 x.Guesses
theorem Rp115.mono:Rel.Mono Rp115:=by
  intro μ ν cs x hle h;obtain ⟨ad1,cap2,rfl,f0⟩:=h;exact ⟨ad1,cap2,rfl,f0.mono hle⟩
theorem Rp115.one:Rel.One 2 Rp115:=by
  intro μ cs x h;obtain ⟨ad1,cap2,rfl,f0⟩:=h
  all_goals rfl
def Rp113:Rel (List fold_Found):=fun μ cs x=>∃(ad1:Option Addr) (cap2:Nat) (css3:List (List Value)),cs=[.slice ad1 x.length cap2]∧ArrQ μ 2 Rp115 ad1 cap2 css3 x
theorem Rp113.mono:Rel.Mono Rp113:=by
  intro μ ν cs x hle h;obtain ⟨ad1,cap2,css3,rfl,f0⟩:=h;exact ⟨ad1,cap2,css3,rfl,f0.mono Rp115.mono hle⟩
def M7:Bool:=true
def spB (s:api_Span):Prop:=-4000000000000000000≤s.Lo∧s.Lo≤4000000000000000000
instance (s:api_Span):Decidable (spB s):=by unfold spB;infer_instance
instance:Inhabited {s:api_Span // spB s}:=⟨⟨⟨0,0⟩,by decide⟩⟩
def Hv (x y:{s:api_Span // spB s}):Int:=x.val.Lo-y.val.Lo
def Ej (F:Nat) (p0:List api_Span):Option (List api_Span) :=
  if h:(∀s∈p0,spB s)∧p0.length<4611686018427387904 then some ((Pv Hv (p0.pmap Subtype.mk h.1)).map Subtype.val) else none
def G7 (p0:ByteArray):Bool:=A9u p0
def A5 (p0:Int) (p1:Int) (p2:Int):Bool :=
  bif (decide (p1≤p0)) then (decide (p0≤p2)) else false
def E2 (p0:pulse_Train) (x3:Int) (c5:Bool):Option Int :=
  bif (bif (bif (bif (!c5) then true else (!(A5 p0.Lambda 10000 1000000))) then true else (!(A5 p0.First 200 5000))) then true else (!(A5 p0.Count x3 64))) then (some 3) else (some 0)
def D0 (p0:pulse_Train) (x3:Int) (c4:Bool):Option Int :=
  bif (p0.Kind != 1) then (E2 p0 x3 (bif (bif c4 then (A5 p0.Second 200 5000) else false) then (decide (p0.First<p0.Second)) else false)) else (E2 p0 x3 c4)
def E8 (F:Nat) (p0:pulse_Train):Option Int :=
  bif (p0.Kind==1) then (D0 p0 2 (p0.Second==0)) else (bif (p0.Kind==2) then ((Hu p0.Count 2).bind fun x8 =>
  D0 p0 4 (x8==0)) else (bif (p0.Kind==3) then (D0 p0 3 true) else (some 2)))
def A9 (p0:api_Span) (p1:Int) (p2:Int):Bool :=
  bif (bif (decide (p1≤p0.Lo)) then (decide (p0.Lo≤p0.Hi)) else false) then (decide (p0.Hi≤p2)) else false
def J8:Option Bool :=
  some true
def Cl (p0:(List api_Span)) (k2:(Int→Option Bool)) (a1:Int):Option Bool :=
  bif (decide (a1<((p0.length:Nat):Int))) then ((An p0 a1).bind fun a0 =>
  (gd (((!(A5 a0.Lo (-32768) 32767))==false&&true)) (ck (a0.Lo+65536)) 0).bind fun a2 =>
  (gd (((!(A5 a0.Lo (-32768) 32767))==false&&true)) (ck (a2-1)) 0).bind fun a3 =>
  bif (bif (!(A5 a0.Lo (-32768) 32767)) then true else (!(A5 a0.Hi a0.Lo a3))) then (some false) else ((ck (a1+1)).bind fun a4 =>
  k2 a4)) else (J8)
def D8 (p0:(List api_Span)):Nat→Int→Option Bool
  | 0,_=>none
  | n+1,a0=>Cl p0 (D8 p0 n) a0
def Jj (F:Nat) (p0:(List api_Span)):Option Bool :=
  D8 p0 F 0
def Bq (c7:Bool):Option Int :=
  bif (!c7) then (some 3) else (some 0)
def Ei (F:Nat) (p0:api_Echo) (c9:Bool):Option Int :=
  bif c9 then (bif (p0.Kind==2) then (Bq (bif (bif (bif (bif (bif (bif (A9 p0.Power 0 1073741824) then (decide (p0.Power.Lo>0)) else false) then (A9 p0.Ratio 0 1000000) else false) then (A9 p0.Match 0 1000) else false) then (A5 p0.Spread 0 65535) else false) then ((((p0.Steps.1.Lo:Int)==0)&&(((p0.Steps.1.Hi:Int)==0)&&true))&&((((p0.Steps.2.Lo:Int)==0)&&(((p0.Steps.2.Hi:Int)==0)&&true))&&true)) else false) then (((p0.Turn.Lo:Int)==0)&&(((p0.Turn.Hi:Int)==0)&&true)) else false)) else (bif (bif (bif (bif (bif (A9 p0.Power 0 1073741824) then (decide (p0.Power.Lo>0)) else false) then (A9 p0.Ratio 0 1000000) else false) then (A9 p0.Match 0 1000) else false) then (A5 p0.Spread 0 65535) else false) then ((Jj F ([(api_Span.mk p0.Steps.1.Lo p0.Steps.1.Hi),(api_Span.mk p0.Steps.2.Lo p0.Steps.2.Hi),p0.Turn])).bind fun a0 =>
  Bq a0) else (Bq false))) else (some 2)
def Fk (F:Nat) (p0:api_Echo):Option Int :=
  bif (p0.Kind==1) then (Bq (bif (A9 p0.Power 0 1073741824) then (((p0.Kind:Int)==1)&&((((p0.Power.Lo:Int)==0)&&(((p0.Power.Hi:Int)==p0.Power.Hi)&&true))&&(((((p0.Steps.1.Lo:Int)==0)&&(((p0.Steps.1.Hi:Int)==0)&&true))&&((((p0.Steps.2.Lo:Int)==0)&&(((p0.Steps.2.Hi:Int)==0)&&true))&&true))&&(((p0.Spread:Int)==0)&&((((p0.Ratio.Lo:Int)==0)&&(((p0.Ratio.Hi:Int)==0)&&true))&&((((p0.Match.Lo:Int)==0)&&(((p0.Match.Hi:Int)==0)&&true))&&((((p0.Turn.Lo:Int)==0)&&(((p0.Turn.Hi:Int)==0)&&true))&&true))))))) else false)) else (bif (p0.Kind==2) then (Ei F p0 (p0.Kind==2)) else (Ei F p0 (p0.Kind==3)))
def J0 (p0:Int):Bool :=
  bif (decide (p0≥1)) then (decide (p0≤200000)) else false
def A3 (p0:api_Span) (p1:api_Span):(api_Span×Bool) :=
  ((api_Span.mk (if p1.Lo>p0.Lo then p1.Lo else p0.Lo) (if p1.Hi<p0.Hi then p1.Hi else p0.Hi)),decide ((if p1.Lo>p0.Lo then p1.Lo else p0.Lo)≤(if p1.Hi<p0.Hi then p1.Hi else p0.Hi)))
def F6 (F:Nat) (p0:pulse_Train) (p1:Int):Option (Int×Int) :=
  (E8 F p0).bind fun y2 =>
  bif (y2 != 0) then (some (0,y2)) else (bif (!(A5 p1 0 1)) then (bif (bif (!(A5 p1 0 1)) then true else (0==0)) then (some (0,2)) else (bif (p1==0) then (some (p0.First,0)) else (bif (p1==1) then (some (p0.Second,0)) else (none)))) else (bif (p1==0) then (bif (bif (!(A5 p1 0 1)) then true else (p0.First==0)) then (some (0,2)) else (some (p0.First,0))) else (bif (p1==1) then (bif (bif (!(A5 p1 0 1)) then true else (p0.Second==0)) then (some (0,2)) else (some (p0.Second,0))) else (none))))
def J7 (F:Nat) (p0:Int) (p1:Int):Option Int :=
  (Rf p0 p1).bind fun x1 =>
  (ck (x1*p1)).bind fun x2 =>
  bif (decide (x2>p0)) then ((ck (x1-1)).bind fun x3 =>
  some x3) else (some x1)
def Mi (F:Nat) (p0:Int) (p1:Int):Option Int :=
  (J7 F (IntKind.i64.wrap (0-p0)) p1).bind fun y1 =>
  some (IntKind.i64.wrap (0-y1))
def Ez (F:Nat) (p0:Int) (c0_:pulse_Train) (c1_:Int) (c2_:Int):Option Int :=
  (ck (500*c0_.Lambda)).bind fun x1 =>
  (ck (c1_*65536)).bind fun x2 =>
  (ck (p0+x2)).bind fun x3 =>
  (ck (x1*x3)).bind fun x4 =>
  (ck (65536*c2_)).bind fun x5 =>
  (J7 F x4 x5).bind fun y6 =>
  some y6
def F1 (F:Nat) (p0:Int) (c0_:pulse_Train) (c1_:Int) (c2_:Int):Option Int :=
  (ck (500*c0_.Lambda)).bind fun x1 =>
  (ck (c1_*65536)).bind fun x2 =>
  (ck (p0+x2)).bind fun x3 =>
  (ck (x1*x3)).bind fun x4 =>
  (ck (65536*c2_)).bind fun x5 =>
  (Mi F x4 x5).bind fun y6 =>
  some y6
def Hf (F:Nat) (p0:pulse_Train) (p1:Int) (p2:api_Span) (p3:Int):Option (api_Span×Int) :=
  (F6 F p0 p1).bind fun y5 =>
  bif (y5.2 != 0) then (some ((api_Span.mk 0 0),y5.2)) else (bif (bif (!(A9 p2 (-131072) 131072)) then true else (!(A5 p3 (-64) 64))) then (some ((api_Span.mk 0 0),3)) else ((Ez F p2.Lo p0 p3 y5.1).bind fun y8 =>
  (F1 F p2.Hi p0 p3 y5.1).bind fun a0 =>
  some ((api_Span.mk y8 a0),0)))
def C2 {σ:Type} (F:Nat) (body:(σ→fold_option→Option (σ×Bool))) (c0_:pulse_Train) (c1_:Int) (c2_:api_Echo) (c3_:Int) (k1:(Int→σ→Option (σ×Bool))) (a0:Int) (a3:σ):Option (σ×Bool) :=
  bif (decide (a0≤64)) then (bif (c1_==0) then ((Hf F c0_ c1_ (api_Span.mk c2_.Steps.1.Lo c2_.Steps.1.Hi) a0).bind fun a1 =>
  bif ((A3 (api_Span.mk a1.1.Lo a1.1.Hi) (api_Span.mk (IntKind.i64.wrap (0-c3_)) c3_)).2) then ((body a3 (fold_option.mk a0 (api_Span.mk (((A3 (api_Span.mk a1.1.Lo a1.1.Hi) (api_Span.mk (IntKind.i64.wrap (0-c3_)) c3_)).1).Lo) (((A3 (api_Span.mk a1.1.Lo a1.1.Hi) (api_Span.mk (IntKind.i64.wrap (0-c3_)) c3_)).1).Hi)))).bind fun a4 =>
  bif a4.2 then ((ck (a0+1)).bind fun a6 =>
  k1 a6 a4.1) else (some (a4.1,false))) else ((ck (a0+1)).bind fun a7 =>
  k1 a7 a3)) else (bif (c1_==1) then ((Hf F c0_ c1_ (api_Span.mk c2_.Steps.2.Lo c2_.Steps.2.Hi) a0).bind fun a2 =>
  bif ((A3 (api_Span.mk a2.1.Lo a2.1.Hi) (api_Span.mk (IntKind.i64.wrap (0-c3_)) c3_)).2) then ((body a3 (fold_option.mk a0 (api_Span.mk (((A3 (api_Span.mk a2.1.Lo a2.1.Hi) (api_Span.mk (IntKind.i64.wrap (0-c3_)) c3_)).1).Lo) (((A3 (api_Span.mk a2.1.Lo a2.1.Hi) (api_Span.mk (IntKind.i64.wrap (0-c3_)) c3_)).1).Hi)))).bind fun a5 =>
  bif a5.2 then ((ck (a0+1)).bind fun a8 =>
  k1 a8 a5.1) else (some (a5.1,false))) else ((ck (a0+1)).bind fun a9 =>
  k1 a9 a3)) else (none))) else (some (a3,true))
def Cp {σ:Type} (F:Nat) (body:(σ→fold_option→Option (σ×Bool))) (c0_:pulse_Train) (c1_:Int) (c2_:api_Echo) (c3_:Int):Nat→Int→σ→Option (σ×Bool)
  | 0,_,_=>none
  | n+1,a1,a0=>C2 F body c0_ c1_ c2_ c3_ (Cp F body c0_ c1_ c2_ c3_ n) a1 a0
def Hp {σ:Type} (F:Nat) (c0_:pulse_Train) (c1_:Int) (c2_:api_Echo) (c3_:Int) (body:σ→fold_option→Option (σ×Bool)) (s_:σ):Option (σ×Bool) :=
  Cp F body c0_ c1_ c2_ c3_ F (-64) s_
def Pc (p0:pulse_Train) (p1:api_Echo) (p2:Int) (p3:Int):Unit :=
  ()
def D9 (s_r:((List fold_option)×Nat)) (x_:fold_option):Option (((List fold_option)×Nat)×Bool) :=
  (apd 24 s_r.1 ([x_])).bind fun a0 =>
  some ((a0,0),true)
def Lg (tg_:Nat):Code:=.ret
def K6 (F:Nat) (p0:pulse_Train) (p1:api_Echo) (p2:Int) (p3:Int):Option ((List fold_option)×Bool) :=
  (Hp F p0 p2 (api_Echo.mk p1.Kind p1.Power ((api_Span.mk p1.Steps.1.Lo p1.Steps.1.Hi),(api_Span.mk p1.Steps.2.Lo p1.Steps.2.Hi)) p1.Spread p1.Ratio p1.Match p1.Turn) p3 (D9) (([]:List fold_option),0)).bind fun a0 =>
  bif a0.2 then ((gd (((decide (((a0.1.1.length:Nat):Int)>0))==true&&true)) (An a0.1.1 0) default).bind fun a1 =>
  (gd (((a1.whole==(-64))==false&&((decide (((a0.1.1.length:Nat):Int)>0))==true&&true))) (ck (((a0.1.1.length:Nat):Int)-1)) 0).bind fun a3 =>
  (gd (((a1.whole==(-64))==false&&((decide (((a0.1.1.length:Nat):Int)>0))==true&&true))) (An a0.1.1 a3) default).bind fun a2 =>
  bif (bif (decide (((a0.1.1.length:Nat):Int)>0)) then (bif (a1.whole==(-64)) then true else (a2.whole==64)) else false) then (some (([]:(List fold_option)),false)) else (some (a0.1.1,true))) else (none)
def Gy (a1:((List fold_option)×Bool)) (a0:(List fold_Guess)):Option ((List fold_Guess)×Bool) :=
  some (a0,a1.2)
def Ff (a1:Int) (k3:((List fold_Guess)→Int→Option ((List fold_Guess)×Bool))) (a0:(List fold_Guess)):Option ((List fold_Guess)×Bool) :=
  (ck (a1+1)).bind fun a2 =>
  k3 a0 a2
def Fg (a1:Int) (k5:((List fold_Guess)→Int→Option ((List fold_Guess)×Bool))) (a0:(List fold_Guess)):Option ((List fold_Guess)×Bool) :=
  (ck (a1+1)).bind fun a2 =>
  k5 a0 a2
def Du (a4:((List fold_option)×Bool)) (a6:Int) (k3:((List fold_Guess)→Int→Option ((List fold_Guess)×Bool))) (a0:fold_option) (k5:((List fold_Guess)→Int→Option ((List fold_Guess)×Bool))) (a3:(List fold_Guess)) (a2:Int):Option ((List fold_Guess)×Bool) :=
  bif (decide (a2<((a4.1.length:Nat):Int))) then ((An a4.1 a2).bind fun a1 =>
  bif ((A3 a0.speed a1.speed).2) then ((apd 32 a3 ([(fold_Guess.mk (a0.whole,a1.whole) (api_Span.mk (((A3 a0.speed a1.speed).1).Lo) (((A3 a0.speed a1.speed).1).Hi)))])).bind fun a5 =>
  Fg a2 k5 a5) else (Fg a2 k5 a3)) else (Ff a6 k3 a3)
def C7 (a2:((List fold_option)×Bool)) (a1:Int) (k3:((List fold_Guess)→Int→Option ((List fold_Guess)×Bool))) (a0:fold_option):Nat→(List fold_Guess)→Int→Option ((List fold_Guess)×Bool)
  | 0,_,_=>none
  | n+1,a3,a4=>Du a2 a1 k3 a0 (C7 a2 a1 k3 a0 n) a3 a4
def Dt (F:Nat) (y4:((List fold_option)×Bool)) (a2:((List fold_option)×Bool)) (k3:((List fold_Guess)→Int→Option ((List fold_Guess)×Bool))) (a1:(List fold_Guess)) (a0:Int):Option ((List fold_Guess)×Bool) :=
  bif (decide (a0<((y4.1.length:Nat):Int))) then ((An y4.1 a0).bind fun a3 =>
  C7 a2 a0 k3 a3 F a1 0) else (Gy a2 a1)
def C6 (F:Nat) (y4:((List fold_option)×Bool)) (a0:((List fold_option)×Bool)):Nat→(List fold_Guess)→Int→Option ((List fold_Guess)×Bool)
  | 0,_,_=>none
  | n+1,a1,a2=>Dt F y4 a0 (C6 F y4 a0 n) a1 a2
def Gx (F:Nat) (p0:pulse_Train) (p1:api_Echo) (p2:Int) (y4:((List fold_option)×Bool)):Option ((List fold_Guess)×Bool) :=
  (K6 F p0 (api_Echo.mk p1.Kind p1.Power ((api_Span.mk p1.Steps.1.Lo p1.Steps.1.Hi),(api_Span.mk p1.Steps.2.Lo p1.Steps.2.Hi)) p1.Spread p1.Ratio p1.Match p1.Turn) 1 p2).bind fun a0 =>
  C6 F y4 a0 F ([]) 0
def Gz (a0:(List fold_Guess)):Option ((List fold_Guess)×Bool) :=
  some (a0,true)
def Dv (y4:((List fold_option)×Bool)) (k8:((List fold_Guess)→Int→Option ((List fold_Guess)×Bool))) (a1:(List fold_Guess)) (a0:Int):Option ((List fold_Guess)×Bool) :=
  bif (decide (a0<((y4.1.length:Nat):Int))) then ((An y4.1 a0).bind fun a2 =>
  (apd 32 a1 ([(fold_Guess.mk (a2.whole,0) a2.speed)])).bind fun a3 =>
  (ck (a0+1)).bind fun a4 =>
  k8 a3 a4) else (Gz a1)
def D1 (y4:((List fold_option)×Bool)):Nat→(List fold_Guess)→Int→Option ((List fold_Guess)×Bool)
  | 0,_,_=>none
  | n+1,a0,a1=>Dv y4 (D1 y4 n) a0 a1
def Ga (F:Nat) (p0:pulse_Train) (p1:api_Echo) (p2:Int):Option ((List fold_Guess)×Bool) :=
  (K6 F p0 (api_Echo.mk p1.Kind p1.Power ((api_Span.mk p1.Steps.1.Lo p1.Steps.1.Hi),(api_Span.mk p1.Steps.2.Lo p1.Steps.2.Hi)) p1.Spread p1.Ratio p1.Match p1.Turn) 0 p2).bind fun y4 =>
  bif (!y4.2) then (some (([]:(List fold_Guess)),false)) else (bif (p0.Kind==1) then (D1 y4 F ([]) 0) else (Gx F p0 p1 p2 y4))
def Tb (F:Nat) (p0:Int) (p1:Int):Option Int :=
  (Rf p0 p1).bind fun x1 =>
  (Hu p0 p1).bind fun x2 =>
  bif (decide (x2<0)) then ((ck (x1-1)).bind fun x3 =>
  some x3) else (some x1)
def B5 (F:Nat) (p0:(List api_Span)):Option (List api_Span) :=
  (apd 16 ([]:List api_Span) p0).bind fun l5 =>
  some l5
def Fp (a0:(List api_Span)):Option (List api_Span) :=
  some a0
def C4 (a1:Int) (k2:(Int→(List api_Span)→Option (List api_Span))) (a0:(List api_Span)):Option (List api_Span) :=
  (ck (a1+1)).bind fun a2 =>
  k2 a2 a0
def Az (y9:(List api_Span)) (k2:(Int→(List api_Span)→Option (List api_Span))) (a2:Int) (a0:(List api_Span)):Option (List api_Span) :=
  bif (decide (a2<((y9.length:Nat):Int))) then ((An y9 a2).bind fun a1 =>
  (gd (((decide (((a0.length:Nat):Int)>0))==true&&true)) (ck (((a0.length:Nat):Int)-1)) 0).bind fun a9 =>
  (gd (((decide (((a0.length:Nat):Int)>0))==true&&true)) (An a0 a9) default).bind fun a7 =>
  bif (bif (decide (((a0.length:Nat):Int)>0)) then (decide (a1.Lo≤a7.Hi)) else false) then ((ck (((a0.length:Nat):Int)-1)).bind fun a4 =>
  (ck (((a0.length:Nat):Int)-1)).bind fun aA =>
  (An a0 aA).bind fun a3 =>
  (An a0 a4).bind fun a8 =>
  (Ge a0 a4 (api_Span.mk a8.Lo (if a1.Hi>a3.Hi then a1.Hi else a3.Hi))).bind fun a5 =>
  C4 a2 k2 a5) else ((apd 16 a0 ([a1])).bind fun a6 =>
  C4 a2 k2 a6)) else (Fp a0)
def Aq (y9:(List api_Span)):Nat→Int→(List api_Span)→Option (List api_Span)
  | 0,_,_=>none
  | n+1,a1,a0=>Az y9 (Aq y9 n) a1 a0
def Bm (F:Nat) (p0:(List api_Span)):Option (List api_Span) :=
  (B5 F p0).bind fun y5 =>
  (Ej F y5).bind fun y9 =>
  Aq y9 F 0 ([])
def E4 (p0:Int) (p1:Int):Int :=
  bif (bif (bif (bif (decide (p0<0)) then true else (decide (p0>400000))) then true else (decide (p1<1))) then true else (decide (p1>16))) then (3) else (0)
def Jf (a0:(List Int)):Option (List Int) :=
  some a0
def Gr (a1:Int) (k2:((List Int)→Int→Option (List Int))) (a0:(List Int)):Option (List Int) :=
  (ck (a1+1)).bind fun a2 =>
  k2 a0 a2
def Ep (p0:(List (List api_Span))) (k2:((List Int)→Int→Option (List Int))) (a1:(List Int)) (a0:Int):Option (List Int) :=
  bif (decide (a0<((p0.length:Nat):Int))) then ((An p0 a0).bind fun a3 =>
  bif (decide (((a3.length:Nat):Int)>0)) then ((apd 8 a1 ([a0])).bind fun a2 =>
  Gr a0 k2 a2) else (Gr a0 k2 a1)) else (Jf a1)
def Er (p0:(List (List api_Span))):Nat→(List Int)→Int→Option (List Int)
  | 0,_,_=>none
  | n+1,a0,a1=>Ep p0 (Er p0 n) a0 a1
def J1 (F:Nat) (p0:(List (List api_Span))):Option (List Int) :=
  Er p0 F ([]) 0
def Cw (F:Nat) (a0:(List api_Span)):Option (List api_Span) :=
  (Bm F a0).bind fun a1 =>
  some a1
def Cy (p0:(List api_Span)) (p1:(List api_Span)) (a0:Int) (a1:Int) (k2:((List api_Span)→Int→Int→Option (List api_Span))) (a2:(List api_Span)):Option (List api_Span) :=
  (An p0 a0).bind fun a3 =>
  (An p1 a1).bind fun a4 =>
  bif (decide (a3.Hi<a4.Hi)) then ((ck (a0+1)).bind fun a5 =>
  k2 a2 a5 a1) else ((ck (a1+1)).bind fun a6 =>
  k2 a2 a0 a6)
def Bs (F:Nat) (p0:(List api_Span)) (p1:(List api_Span)) (k2:((List api_Span)→Int→Int→Option (List api_Span))) (a2:(List api_Span)) (a0:Int) (a1:Int):Option (List api_Span) :=
  bif (bif (decide (a0<((p0.length:Nat):Int))) then (decide (a1<((p1.length:Nat):Int))) else false) then ((An p0 a0).bind fun a3 =>
  (An p1 a1).bind fun a4 =>
  bif ((A3 a3 a4).2) then ((apd 16 a2 ([(api_Span.mk (((A3 a3 a4).1).Lo) (((A3 a3 a4).1).Hi))])).bind fun a5 =>
  Cy p0 p1 a0 a1 k2 a5) else (Cy p0 p1 a0 a1 k2 a2)) else (Cw F a2)
def Bi (F:Nat) (p0:(List api_Span)) (p1:(List api_Span)):Nat→(List api_Span)→Int→Int→Option (List api_Span)
  | 0,_,_,_=>none
  | n+1,a0,a1,a2=>Bs F p0 p1 (Bi F p0 p1 n) a0 a1 a2
def E7 (F:Nat) (p0:(List api_Span)) (p1:(List api_Span)):Option (List api_Span) :=
  Bi F p0 p1 F ([]) 0 0
def Dx (F:Nat) (a0:(List api_Span)):Option (List api_Span) :=
  (Bm F a0).bind fun a1 =>
  some a1
def Bt (F:Nat) (p0:(List api_Span)) (p1:Int) (k2:(Int→(List api_Span)→Option (List api_Span))) (a0:Int) (a1:(List api_Span)):Option (List api_Span) :=
  bif (decide (a0<((p0.length:Nat):Int))) then ((An p0 a0).bind fun a2 =>
  (ck (a2.Lo-p1)).bind fun a4 =>
  (ck (a2.Hi+p1)).bind fun a5 =>
  (apd 16 a1 ([(api_Span.mk a4 a5)])).bind fun a3 =>
  (ck (a0+1)).bind fun a6 =>
  k2 a6 a3) else (Dx F a1)
def Bu (F:Nat) (p0:(List api_Span)) (p1:Int):Nat→Int→(List api_Span)→Option (List api_Span)
  | 0,_,_=>none
  | n+1,a1,a0=>Bt F p0 p1 (Bu F p0 p1 n) a1 a0
def F3 (F:Nat) (p0:(List api_Span)) (p1:Int):Option (List api_Span) :=
  Bu F p0 p1 F 0 ([])
def D2 (F:Nat) (p0:(List api_Span)) (p1:(List api_Span)) (p2:Int):Option (List api_Span) :=
  (F3 F p1 p2).bind fun y8 =>
  (E7 F p0 y8).bind fun a0 =>
  some a0
def Cv (F:Nat) (p0:fold_web) (p1:fold_place) (p2:fold_place) (p3:Int):Option fold_web :=
  (apd 24 ((lkM p0.bonds p1).getD []) ([(fold_bond.mk p2 p3)])).bind fun a0 =>
  (apd 24 ((lkM (upM p0.bonds p1 a0) p2).getD []) ([(fold_bond.mk p1 p3)])).bind fun a1 =>
  some (fold_web.mk p0.sets (upM (upM p0.bonds p1 a0) p2 a1))
def Ax (F:Nat) (p0:(List (List api_Span))):Option (List (List api_Span)) :=
  (apd 24 ([]:List (List api_Span)) p0).bind fun l7 =>
  some l7
def Ks (a0:(List (List (List api_Span)))) (a1:(List (fold_place×(List fold_bond)))):Option fold_web :=
  some (fold_web.mk a0 a1)
def Jg (a2:Int) (k2:((List (List (List api_Span)))→(List (fold_place×(List fold_bond)))→Int→Option fold_web)) (a0:(List (List (List api_Span)))) (a1:(List (fold_place×(List fold_bond)))):Option fold_web :=
  (ck (a2+1)).bind fun a3 =>
  k2 a0 a1 a3
def E5 (F:Nat) (a4:Int) (k2:((List (List (List api_Span)))→(List (fold_place×(List fold_bond)))→Int→Option fold_web)) (a3:(List (List api_Span))) (a0:(List (List (List api_Span)))) (a1:(List (fold_place×(List fold_bond)))):Option fold_web :=
  (Ax F a3).bind fun a5 =>
  (apd 24 a0 ([a5])).bind fun a2 =>
  Jg a4 k2 a2 a1
def Ew (a2:Int) (k5:((List (List (List api_Span)))→(List (fold_place×(List fold_bond)))→Int→Option fold_web)) (a0:(List (List (List api_Span)))) (a1:(List (fold_place×(List fold_bond)))):Option fold_web :=
  (ck (a2+1)).bind fun a3 =>
  k5 a0 a1 a3
def Eu (F:Nat) (p0:(List (List (List api_Span)))) (p1:Int) (p2:Int) (a4:Int) (a5:Int) (k5:((List (List (List api_Span)))→(List (fold_place×(List fold_bond)))→Int→Option fold_web)) (a1:Int) (a2:(List (List (List api_Span)))) (a3:(List (fold_place×(List fold_bond)))) (k8:(Int→Option fold_web)) (a0:Int):Option fold_web :=
  (ck (((p0.length:Nat):Int)-1)).bind fun a6 =>
  bif (decide (a0≤(if a6<p2 then a6 else p2))) then ((ck (a4+a0)).bind fun aB =>
  (Hu aB ((p0.length:Nat):Int)).bind fun a7 =>
  (An p0 a7).bind fun a9 =>
  (An a9 a1).bind fun aA =>
  bif (decide (((aA.length:Nat):Int)>0)) then ((ck (p1*a0)).bind fun aC =>
  (Cv F (fold_web.mk a2 a3) (fold_place.mk a4 a1) (fold_place.mk a7 a1) aC).bind fun a8 =>
  Ew a5 k5 a8.sets a8.bonds) else ((ck (a0+1)).bind fun aD =>
  k8 aD)) else (Ew a5 k5 a2 a3)
def E6 (F:Nat) (p0:(List (List (List api_Span)))) (p1:Int) (p2:Int) (a3:Int) (a4:Int) (k5:((List (List (List api_Span)))→(List (fold_place×(List fold_bond)))→Int→Option fold_web)) (a2:Int) (a0:(List (List (List api_Span)))) (a1:(List (fold_place×(List fold_bond)))):Nat→Int→Option fold_web
  | 0,_=>none
  | n+1,a5=>Eu F p0 p1 p2 a3 a4 k5 a2 a0 a1 (E6 F p0 p1 p2 a3 a4 k5 a2 a0 a1 n) a5
def Fl (F:Nat) (p0:(List (List (List api_Span)))) (p1:Int) (p2:Int) (a3:Int) (a4:Int) (k5:((List (List (List api_Span)))→(List (fold_place×(List fold_bond)))→Int→Option fold_web)) (a2:Int) (a0:(List (List (List api_Span)))) (a1:(List (fold_place×(List fold_bond)))):Option fold_web :=
  E6 F p0 p1 p2 a3 a4 k5 a2 a0 a1 F 1
def Et (F:Nat) (p0:(List (List (List api_Span)))) (p1:Int) (p2:Int) (a2:Int) (k2:((List (List (List api_Span)))→(List (fold_place×(List fold_bond)))→Int→Option fold_web)) (a7:(List (List api_Span))) (a3:(List Int)) (k5:((List (List (List api_Span)))→(List (fold_place×(List fold_bond)))→Int→Option fold_web)) (a4:(List (List (List api_Span)))) (a5:(List (fold_place×(List fold_bond)))) (a0:Int):Option fold_web :=
  bif (decide (a0<((a3.length:Nat):Int))) then ((An a3 a0).bind fun a1 =>
  (gd (((decide (a0>0))==true&&true)) (ck (a0-1)) 0).bind fun aB =>
  (gd (((decide (a0>0))==true&&true)) (An a3 aB) default).bind fun a8 =>
  (gd (((decide (a0>0))==true&&true)) (ck (a1-a8)) 0).bind fun aC =>
  bif (bif (decide (a0>0)) then (decide (aC≤p2)) else false) then ((ck (a0-1)).bind fun aD =>
  (An a3 aD).bind fun a9 =>
  (ck (a0-1)).bind fun aE =>
  (An a3 aE).bind fun aA =>
  (ck (a1-aA)).bind fun aF =>
  (ck (p1*aF)).bind fun aG =>
  (Cv F (fold_web.mk a4 a5) (fold_place.mk a2 a9) (fold_place.mk a2 a1) aG).bind fun a6 =>
  Fl F p0 p1 p2 a2 a0 k5 a1 a6.sets a6.bonds) else (Fl F p0 p1 p2 a2 a0 k5 a1 a4 a5)) else (E5 F a2 k2 a7 a4 a5)
def Co (F:Nat) (p0:(List (List (List api_Span)))) (p1:Int) (p2:Int) (a1:Int) (k2:((List (List (List api_Span)))→(List (fold_place×(List fold_bond)))→Int→Option fold_web)) (a0:(List (List api_Span))) (a2:(List Int)):Nat→(List (List (List api_Span)))→(List (fold_place×(List fold_bond)))→Int→Option fold_web
  | 0,_,_,_=>none
  | n+1,a3,a4,a5=>Et F p0 p1 p2 a1 k2 a0 a2 (Co F p0 p1 p2 a1 k2 a0 a2 n) a3 a4 a5
def Es (F:Nat) (p0:(List (List (List api_Span)))) (p1:Int) (p2:Int) (k2:((List (List (List api_Span)))→(List (fold_place×(List fold_bond)))→Int→Option fold_web)) (a1:(List (List (List api_Span)))) (a2:(List (fold_place×(List fold_bond)))) (a0:Int):Option fold_web :=
  bif (decide (a0<((p0.length:Nat):Int))) then ((An p0 a0).bind fun a3 =>
  (J1 F a3).bind fun a4 =>
  Co F p0 p1 p2 a0 k2 a3 a4 F a1 a2 0) else (Ks a1 a2)
def Da (F:Nat) (p0:(List (List (List api_Span)))) (p1:Int) (p2:Int):Nat→(List (List (List api_Span)))→(List (fold_place×(List fold_bond)))→Int→Option fold_web
  | 0,_,_,_=>none
  | n+1,a0,a1,a2=>Es F p0 p1 p2 (Da F p0 p1 p2 n) a0 a1 a2
def Lh (F:Nat) (p0:(List (List (List api_Span)))) (p1:Int) (p2:Int):Option fold_web :=
  Da F p0 p1 p2 F ([]) ([]:List (fold_place×(List fold_bond))) 0
def Cn (F:Nat) (p0:fold_place) (c0_:(List (fold_place×Bool))) (c1_:(List fold_place)):Option ((List (fold_place×Bool))×(List fold_place)) :=
  bif (!((lkM c0_ p0).getD false)) then ((apd 16 c1_ ([p0])).bind fun l6 =>
  some ((upM c0_ p0 true),l6)) else (some (c0_,c1_))
def C1:Option Bool :=
  some true
def Aj (p0:(List api_Span)) (p1:(List api_Span)) (k2:(Int→Option Bool)) (a0:Int):Option Bool :=
  bif (decide (a0<((p0.length:Nat):Int))) then ((An p0 a0).bind fun a1 =>
  (An p1 a0).bind fun a2 =>
  bif (!(((a1.Lo:Int)==a2.Lo)&&(((a1.Hi:Int)==a2.Hi)&&true))) then (some false) else ((ck (a0+1)).bind fun a3 =>
  k2 a3)) else (C1)
def Ak (p0:(List api_Span)) (p1:(List api_Span)):Nat→Int→Option Bool
  | 0,_=>none
  | n+1,a0=>Aj p0 p1 (Ak p0 p1 n) a0
def Au (F:Nat) (p0:(List api_Span)) (p1:(List api_Span)):Option Bool :=
  bif (((p0.length:Nat):Int) != ((p1.length:Nat):Int)) then (some false) else (Ak p0 p1 F 0)
def K7 (a1:(List fold_place)) (a0:(List (List (List api_Span)))) (a2:(List (fold_place×Bool))):Option (List (List (List api_Span))) :=
  some a0
def Dj (a3:Int) (k4:((List fold_place)→(List (List (List api_Span)))→(List (fold_place×Bool))→Int→Option (List (List (List api_Span))))) (a0:(List fold_place)) (a1:(List (List (List api_Span)))) (a2:(List (fold_place×Bool))):Option (List (List (List api_Span))) :=
  (ck (a3+1)).bind fun a4 =>
  k4 a0 a1 a2 a4
def Di (F:Nat) (y5:fold_web) (k3:((List fold_place)→(List (List (List api_Span)))→(List (fold_place×Bool))→Option (List (List (List api_Span))))) (a2:fold_place) (k4:((List fold_place)→(List (List (List api_Span)))→(List (fold_place×Bool))→Int→Option (List (List (List api_Span))))) (a4:(List fold_place)) (a1:(List (List (List api_Span)))) (a5:(List (fold_place×Bool))) (a3:Int):Option (List (List (List api_Span))) :=
  bif (decide (a3<((((lkM y5.bonds a2).getD []).length:Nat):Int))) then ((An ((lkM y5.bonds a2).getD []) a3).bind fun a0 =>
  (An a1 a0.to.ray).bind fun aC =>
  (An aC a0.to.gate).bind fun a6 =>
  (An a1 a2.ray).bind fun aD =>
  (An aD a2.gate).bind fun aE =>
  (D2 F a6 aE a0.most).bind fun a8 =>
  (Au F a6 a8).bind fun aF =>
  bif (!aF) then ((An a1 a0.to.ray).bind fun a7 =>
  (An a7 a0.to.gate).bind fun aG =>
  (Ge a7 a0.to.gate a8).bind fun aA =>
  (Ge a1 a0.to.ray aA).bind fun aB =>
  (Cn F a0.to a5 a4).bind fun a9 =>
  Dj a3 k4 a9.2 aB a9.1) else (Dj a3 k4 a4 a1 a5)) else (k3 a4 a1 a5)
def Ba (F:Nat) (y5:fold_web) (k3:((List fold_place)→(List (List (List api_Span)))→(List (fold_place×Bool))→Option (List (List (List api_Span))))) (a0:fold_place):Nat→(List fold_place)→(List (List (List api_Span)))→(List (fold_place×Bool))→Int→Option (List (List (List api_Span)))
  | 0,_,_,_,_=>none
  | n+1,a1,a2,a3,a4=>Di F y5 k3 a0 (Ba F y5 k3 a0 n) a1 a2 a3 a4
def Dh (F:Nat) (y5:fold_web) (k3:((List fold_place)→(List (List (List api_Span)))→(List (fold_place×Bool))→Option (List (List (List api_Span))))) (a0:(List fold_place)) (a1:(List (List (List api_Span)))) (a2:(List (fold_place×Bool))):Option (List (List (List api_Span))) :=
  bif (decide (((a0.length:Nat):Int)>0)) then ((An a0 0).bind fun a3 =>
  (Wc a0 1 ((a0.length:Nat):Int)).bind fun a4 =>
  Ba F y5 k3 a3 F a4 a1 (Kv a2 a3) 0) else (K7 a0 a1 a2)
def Cq (F:Nat) (y5:fold_web):Nat→(List fold_place)→(List (List (List api_Span)))→(List (fold_place×Bool))→Option (List (List (List api_Span)))
  | 0,_,_,_=>none
  | n+1,a0,a1,a2=>Dh F y5 (Cq F y5 n) a0 a1 a2
def G1 (F:Nat) (y5:fold_web) (a0:(List fold_place)) (a1:(List (fold_place×Bool))):Option (List (List (List api_Span))) :=
  Cq F y5 F a0 y5.sets a1
def G2 (a2:Int) (k6:((List fold_place)→(List (fold_place×Bool))→Int→Option (List (List (List api_Span))))) (a0:(List fold_place)) (a1:(List (fold_place×Bool))):Option (List (List (List api_Span))) :=
  (ck (a2+1)).bind fun a3 =>
  k6 a0 a1 a3
def Eg (F:Nat) (a3:Int) (k6:((List fold_place)→(List (fold_place×Bool))→Int→Option (List (List (List api_Span))))) (a4:(List Int)) (k8:((List fold_place)→(List (fold_place×Bool))→Int→Option (List (List (List api_Span))))) (a1:(List fold_place)) (a2:(List (fold_place×Bool))) (a0:Int):Option (List (List (List api_Span))) :=
  bif (decide (a0<((a4.length:Nat):Int))) then ((An a4 a0).bind fun a6 =>
  (Cn F (fold_place.mk a3 a6) a2 a1).bind fun a5 =>
  (ck (a0+1)).bind fun a7 =>
  k8 a5.2 a5.1 a7) else (G2 a3 k6 a1 a2)
def Cs (F:Nat) (a0:Int) (k6:((List fold_place)→(List (fold_place×Bool))→Int→Option (List (List (List api_Span))))) (a1:(List Int)):Nat→(List fold_place)→(List (fold_place×Bool))→Int→Option (List (List (List api_Span)))
  | 0,_,_,_=>none
  | n+1,a2,a3,a4=>Eg F a0 k6 a1 (Cs F a0 k6 a1 n) a2 a3 a4
def Ef (F:Nat) (p0:(List (List (List api_Span)))) (y5:fold_web) (k6:((List fold_place)→(List (fold_place×Bool))→Int→Option (List (List (List api_Span))))) (a1:(List fold_place)) (a2:(List (fold_place×Bool))) (a0:Int):Option (List (List (List api_Span))) :=
  bif (decide (a0<((p0.length:Nat):Int))) then ((An p0 a0).bind fun a3 =>
  (J1 F a3).bind fun a4 =>
  Cs F a0 k6 a4 F a1 a2 0) else (G1 F y5 a1 a2)
def Cr (F:Nat) (p0:(List (List (List api_Span)))) (y5:fold_web):Nat→(List fold_place)→(List (fold_place×Bool))→Int→Option (List (List (List api_Span)))
  | 0,_,_,_=>none
  | n+1,a0,a1,a2=>Ef F p0 y5 (Cr F p0 y5 n) a0 a1 a2
def Jp (F:Nat) (p0:(List (List (List api_Span)))) (p1:Int) (p2:Int):Option (List (List (List api_Span))) :=
  (Lh F p0 p1 p2).bind fun y5 =>
  Cr F p0 y5 F ([]) ([]:List (fold_place×Bool)) 0
def Ai (p0:Int) (p1:Int):api_Span :=
  (api_Span.mk p0 p1)
def A0 (p0:api_Span) (p1:api_Span):api_Echo :=
  (api_Echo.mk 3 (Ai 1 1) (p0,p1) 0 (api_Span.mk 0 0) (api_Span.mk 0 0) (api_Span.mk 0 0))
def Dw (F:Nat) (p0:law03_Air):Option pulse_Train :=
  (ck p0.Lambda).bind fun a3 =>
  (ck (400*a3)).bind fun a4 =>
  (ck (30000+a4)).bind fun a2 =>
  (ck p0.Kind).bind fun a5 =>
  (Hu a5 3).bind fun a6 =>
  (ck (1+a6)).bind fun a0 =>
  (ck p0.First).bind fun a7 =>
  (Hu a7 1000).bind fun a8 =>
  (ck (500+a8)).bind fun a1 =>
  bif (a0 != 1) then ((ck (a1+1)).bind fun a9 =>
  (ck p0.Second).bind fun aA =>
  (Hu aA 1500).bind fun aB =>
  (ck (a9+aB)).bind fun aC =>
  some (pulse_Train.mk a2 a0 a1 aC 4)) else (some (pulse_Train.mk a2 a0 a1 0 4))
def J3 (F:Nat) (p0:Int) (p1:Int):Option Int :=
  (Rf p0 p1).bind fun x1 =>
  (Hu p0 p1).bind fun x2 =>
  bif (decide (x2<0)) then ((ck (x1-1)).bind fun x3 =>
  some x3) else (some x1)
def J4 (F:Nat) (p0:pulse_Train) (p1:Int) (p2:Int) (p3:Int) (p4:Int):Option api_Span :=
  (ck (p2*65536)).bind fun x3 =>
  (ck (x3*p1)).bind fun x4 =>
  (ck (500*p0.Lambda)).bind fun x5 =>
  (J3 F x4 x5).bind fun y6 =>
  (ck (y6-p3)).bind fun x7 =>
  (J3 F (IntKind.i64.wrap (0-x4)) x5).bind fun y8 =>
  (ck ((IntKind.i64.wrap (0-y8))+p4)).bind fun x9 =>
  (ck (((Ai x7 x9).Lo)+32768)).bind fun a1 =>
  (J3 F a1 65536).bind fun a4 =>
  (ck (a4*65536)).bind fun a0 =>
  (ck (((Ai x7 x9).Lo)-a0)).bind fun a2 =>
  (ck (((Ai x7 x9).Hi)-a0)).bind fun a3 =>
  some (Ai a2 a3)
def C3 (F:Nat) (p0:(List Int)) (p1:Int):Option Int :=
  bif (((p0.length:Nat):Int)==0) then (some 0) else ((Hu p1 ((p0.length:Nat):Int)).bind fun x4 =>
  (An p0 x4).bind fun u5 =>
  (ck u5).bind fun x6 =>
  (Hu x6 3000).bind fun x7 =>
  some x7)
def F9 (a2:Int) (a3:Int) (a0:(List (List api_Echo))) (a1:(List (List Int))):Option (api_Sweep×(List (List Int))) :=
  some ((api_Sweep.mk (api_Site.mk (⟨#[115]⟩:ByteArray) 0 0 0 a2 a3 500 0) 0 0 a0),a1)
def Fa (a2:Int) (k2:((List (List api_Echo))→Int→(List (List Int))→Option (api_Sweep×(List (List Int))))) (a0:(List (List api_Echo))) (a1:(List (List Int))):Option (api_Sweep×(List (List Int))) :=
  (ck (a2+1)).bind fun a3 =>
  k2 a0 a3 a1
def D3 (a0:(List (List api_Echo))) (a6:Int) (a1:(List (List Int))) (k2:((List (List api_Echo))→Int→(List (List Int))→Option (api_Sweep×(List (List Int))))) (a2:(List api_Echo)) (a3:(List Int)):Option (api_Sweep×(List (List Int))) :=
  (apd 24 a0 ([a2])).bind fun a4 =>
  (apd 24 a1 ([a3])).bind fun a5 =>
  Fa a6 k2 a4 a5
def D5 (a0:(List api_Echo)) (a1:(List Int)) (a4:Int) (k5:((List api_Echo)→(List Int)→Int→Option (api_Sweep×(List (List Int))))) (a5:Int) (a6:Int) (a7:Int) (a8:Int) (a9:Int) (aA:Int) (aB:Int) (aC:Int) (aD:Int) (aE:Int) (aF:Int) (aG:Int) (aH:Int) (aI:Int) (aJ:Int):Option (api_Sweep×(List (List Int))) :=
  (apd 112 a0 ([(api_Echo.mk a6 (api_Span.mk a7 aC) ((api_Span.mk aD aE),(api_Span.mk aF aG)) aH (api_Span.mk aI aJ) (api_Span.mk a8 a9) (api_Span.mk aA aB))])).bind fun a2 =>
  (apd 8 a1 ([a5])).bind fun a3 =>
  (ck (a4+1)).bind fun aK =>
  k5 a2 a3 aK
def D4 (p0:law03_Air) (a1:(List api_Echo)) (a2:(List Int)) (a3:Int) (k5:((List api_Echo)→(List Int)→Int→Option (api_Sweep×(List (List Int))))) (a5:Int) (a4:Int) (a0:api_Span) (a6:Int) (a7:Int):Option (api_Sweep×(List (List Int))) :=
  (Hu a5 32).bind fun a8 =>
  (A4q .u32 p0.Blank a8).bind fun a9 =>
  bif ((A7c .u32 a9 1)==1) then (D5 a1 a2 a3 k5 a4 1 ((Ai 0 5).Lo) 0 0 0 0 ((Ai 0 5).Hi) 0 0 0 0 0 0 0) else (D5 a1 a2 a3 k5 a4 ((A0 a0 (api_Span.mk 0 0)).Kind) (((A0 a0 (api_Span.mk 0 0)).Power).Lo) (((A0 a0 (api_Span.mk 0 0)).Match).Lo) (((A0 a0 (api_Span.mk 0 0)).Match).Hi) (((A0 a0 (api_Span.mk 0 0)).Turn).Lo) (((A0 a0 (api_Span.mk 0 0)).Turn).Hi) (((A0 a0 (api_Span.mk 0 0)).Power).Hi) ((((A0 a0 (api_Span.mk 0 0)).Steps).1).Lo) ((((A0 a0 (api_Span.mk 0 0)).Steps).1).Hi) a6 a7 ((A0 a0 (api_Span.mk 0 0)).Spread) (((A0 a0 (api_Span.mk 0 0)).Ratio).Lo) (((A0 a0 (api_Span.mk 0 0)).Ratio).Hi))
def Cf (F:Nat) (p0:law03_Air) (a1:pulse_Train) (a4:(List api_Echo)) (a5:(List Int)) (a6:Int) (k5:((List api_Echo)→(List Int)→Int→Option (api_Sweep×(List (List Int))))) (a0:Int) (a2:Int):Option (api_Sweep×(List (List Int))) :=
  (C3 F p0.Less a0).bind fun a8 =>
  (C3 F p0.More a0).bind fun a9 =>
  (J4 F a1 a1.First a2 a8 a9).bind fun a3 =>
  bif (a1.Kind != 1) then ((C3 F p0.More a0).bind fun aA =>
  (C3 F p0.Less a0).bind fun aB =>
  (J4 F a1 a1.Second a2 aA aB).bind fun a7 =>
  D4 p0 a4 a5 a6 k5 a0 a2 a3 a7.Lo a7.Hi) else (D4 p0 a4 a5 a6 k5 a0 a2 a3 ((((A0 a3 (api_Span.mk 0 0)).Steps).2).Lo) ((((A0 a3 (api_Span.mk 0 0)).Steps).2).Hi))
def Ce (F:Nat) (p0:law03_Air) (a8:pulse_Train) (a5:Int) (a6:Int) (a9:(List (List api_Echo))) (a7:Int) (aA:(List (List Int))) (k2:((List (List api_Echo))→Int→(List (List Int))→Option (api_Sweep×(List (List Int))))) (k5:((List api_Echo)→(List Int)→Int→Option (api_Sweep×(List (List Int))))) (a1:(List api_Echo)) (a2:(List Int)) (a0:Int):Option (api_Sweep×(List (List Int))) :=
  bif (decide (a0<a5)) then ((ck (a7*a5)).bind fun aC =>
  (ck (aC+a0)).bind fun a3 =>
  (ck p0.Base).bind fun a4 =>
  bif (decide (((p0.Speeds.length:Nat):Int)>0)) then ((Hu a3 ((p0.Speeds.length:Nat):Int)).bind fun aD =>
  (An p0.Speeds aD).bind fun aB =>
  (ck aB).bind fun aE =>
  (Rf a6 2).bind fun aF =>
  (ck (aF+1)).bind fun aG =>
  (Hu aE aG).bind fun aH =>
  (Rf a6 4).bind fun aI =>
  (ck (aH-aI)).bind fun aJ =>
  (ck (a4+aJ)).bind fun aK =>
  Cf F p0 a8 a1 a2 a0 k5 a3 aK) else (Cf F p0 a8 a1 a2 a0 k5 a3 a4)) else (D3 a9 a7 aA k2 a1 a2)
def Be (F:Nat) (p0:law03_Air) (a5:pulse_Train) (a2:Int) (a3:Int) (a0:(List (List api_Echo))) (a4:Int) (a1:(List (List Int))) (k2:((List (List api_Echo))→Int→(List (List Int))→Option (api_Sweep×(List (List Int))))):Nat→(List api_Echo)→(List Int)→Int→Option (api_Sweep×(List (List Int)))
  | 0,_,_,_=>none
  | n+1,a6,a7,a8=>Ce F p0 a5 a2 a3 a0 a4 a1 k2 (Be F p0 a5 a2 a3 a0 a4 a1 k2 n) a6 a7 a8
def Cc (F:Nat) (p0:law03_Air) (a7:pulse_Train) (a4:Int) (a2:Int) (a5:Int) (a6:Int) (k2:((List (List api_Echo))→Int→(List (List Int))→Option (api_Sweep×(List (List Int))))) (a0:(List (List api_Echo))) (a3:Int) (a1:(List (List Int))):Option (api_Sweep×(List (List Int))) :=
  bif (decide (a3<a6)) then (Be F p0 a7 a2 a5 a0 a3 a1 k2 F ([]) ([]) 0) else (F9 a4 a2 a0 a1)
def Bo (F:Nat) (p0:law03_Air) (a4:pulse_Train) (a0:Int) (a1:Int) (a2:Int) (a3:Int):Nat→(List (List api_Echo))→Int→(List (List Int))→Option (api_Sweep×(List (List Int)))
  | 0,_,_,_=>none
  | n+1,a5,a7,a6=>Cc F p0 a4 a0 a1 a2 a3 (Bo F p0 a4 a0 a1 a2 a3 n) a5 a7 a6
def Fh (F:Nat) (p0:law03_Air):Option (api_Sweep×(List (List Int))) :=
  (Dw F p0).bind fun a9 =>
  (ck p0.Rose).bind fun a1 =>
  (Hu a1 2).bind fun a2 =>
  (ck (1+a2)).bind fun a0 =>
  (ck p0.Gates).bind fun a3 =>
  (Hu a3 4).bind fun a4 =>
  (ck (1+a4)).bind fun a5 =>
  (ck p0.Jump).bind fun a6 =>
  (Hu a6 8000).bind fun a7 =>
  (ck (4*a0)).bind fun a8 =>
  Bo F p0 a9 a0 a5 a7 a8 F ([]) 0 ([])
def Ms (F:Nat) (p0:ByteArray):Option Bool :=
  (gd (((bif (!(sEq p0 (⟨#[]⟩:ByteArray))) then (decide (((p0.size:Nat):Int)≤12)) else false)==true&&true)) (Yc p0 (0:Int)) default).bind fun u1 =>
  (gd (((bif (bif (!(sEq p0 (⟨#[]⟩:ByteArray))) then (decide (((p0.size:Nat):Int)≤12)) else false) then (decide (u1≥97)) else false)==true&&true)) (Yc p0 (0:Int)) default).bind fun u2 =>
  some (bif (bif (bif (bif (!(sEq p0 (⟨#[]⟩:ByteArray))) then (decide (((p0.size:Nat):Int)≤12)) else false) then (decide (u1≥97)) else false) then (decide (u2≤122)) else false) then (!(G7 p0)) else false)
def Ag (p0:Int) (p1:Int) (p2:Int):Bool :=
  bif (decide (p1≤p0)) then (decide (p0≤p2)) else false
def Dl (c4:Bool):Option Int :=
  bif c4 then (some 3) else (some 0)
def Dk (p0:api_Site) (c3:Bool):Option Int :=
  bif c3 then (some 3) else (bif (!(Ag p0.Rose 1 90)) then (Dl (!(Ag p0.Rose 1 90))) else (bif (!(Ag p0.Gates 1 200)) then (Dl (!(Ag p0.Gates 1 200))) else (bif (!(Ag p0.Step 50 2000)) then (Dl (!(Ag p0.Step 50 2000))) else (Dl (!(Ag p0.Width 0 8))))))
def Fw (F:Nat) (p0:api_Site):Option Int :=
  (Ms F p0.Name).bind fun y2 =>
  bif (!y2) then (some 10) else (bif (!(Ag p0.X (-1048576) 1048576)) then (Dk p0 (!(Ag p0.X (-1048576) 1048576))) else (bif (!(Ag p0.Y (-1048576) 1048576)) then (Dk p0 (!(Ag p0.Y (-1048576) 1048576))) else (Dk p0 (!(Ag p0.Z 0 20000)))))
def Gk:Option Int :=
  some 0
def E0 (a0:Int) (k3:(Int→Option Int)):Option Int :=
  (ck (a0+1)).bind fun a1 =>
  k3 a1
def Bx (F:Nat) (a4:Int) (k3:(Int→Option Int)) (a2:(List api_Echo)) (k5:(Int→Option Int)) (a1:Int):Option Int :=
  bif (decide (a1<((a2.length:Nat):Int))) then ((An a2 a1).bind fun a0 =>
  (Fk F (api_Echo.mk a0.Kind a0.Power ((api_Span.mk a0.Steps.1.Lo a0.Steps.1.Hi),(api_Span.mk a0.Steps.2.Lo a0.Steps.2.Hi)) a0.Spread a0.Ratio a0.Match a0.Turn)).bind fun a3 =>
  bif (a3 != 0) then (some a3) else ((ck (a1+1)).bind fun a5 =>
  k5 a5)) else (E0 a4 k3)
def Bz (F:Nat) (a1:Int) (k3:(Int→Option Int)) (a0:(List api_Echo)):Nat→Int→Option Int
  | 0,_=>none
  | n+1,a2=>Bx F a1 k3 a0 (Bz F a1 k3 a0 n) a2
def Bw (F:Nat) (p0:api_Sweep) (k3:(Int→Option Int)) (a0:Int):Option Int :=
  bif (decide (a0<((p0.Rays.length:Nat):Int))) then ((An p0.Rays a0).bind fun a1 =>
  Bz F a0 k3 a1 F 0) else (Gk)
def Bj (F:Nat) (p0:api_Sweep):Nat→Int→Option Int
  | 0,_=>none
  | n+1,a0=>Bw F p0 (Bj F p0 n) a0
def Gj (F:Nat) (p0:api_Sweep):Option Int :=
  Bj F p0 F 0
def By (F:Nat) (p0:api_Sweep) (k6:(Int→Option Int)) (a0:Int):Option Int :=
  bif (decide (a0<((p0.Rays.length:Nat):Int))) then ((An p0.Rays a0).bind fun a1 =>
  bif (((a1.length:Nat):Int) != p0.Site.Gates) then (some 11) else ((ck (a0+1)).bind fun a2 =>
  k6 a2)) else (Gj F p0)
def C0 (F:Nat) (p0:api_Sweep):Nat→Int→Option Int
  | 0,_=>none
  | n+1,a0=>By F p0 (C0 F p0 n) a0
def D7 (F:Nat) (p0:api_Sweep):Option Int :=
  (Fw F p0.Site).bind fun y6 =>
  bif (y6 != 0) then (some y6) else (bif (bif (!(A5 p0.Tilt 0 256)) then true else (!(A5 p0.Time 0 4294967296))) then (some 3) else ((ck (4*p0.Site.Rose)).bind fun x7 =>
  bif (((p0.Rays.length:Nat):Int) != x7) then (some 11) else (C0 F p0 F 0)))
def Ho (a0:(List fold_Guess)):Option fold_Found :=
  (An ([4,2,3]) (if ((a0.length:Nat):Int)<2 then ((a0.length:Nat):Int) else 2)).bind fun a1 =>
  some (fold_Found.mk a1 a0)
def Gb (a1:Int) (k2:(Int→(List fold_Guess)→Option fold_Found)) (a0:(List fold_Guess)):Option fold_Found :=
  (ck (a1+1)).bind fun a2 =>
  k2 a2 a0
def F7 (F:Nat) (p0:(List fold_Guess)) (p1:(List api_Span)) (k2:(Int→(List fold_Guess)→Option fold_Found)) (a0:Int) (a2:(List fold_Guess)):Option fold_Found :=
  bif (decide (a0<((p0.length:Nat):Int))) then ((An p0 a0).bind fun a3 =>
  (E7 F p1 ([a3.Speed])).bind fun a1 =>
  bif (decide (((a1.length:Nat):Int)>0)) then ((An a1 0).bind fun a5 =>
  (ck (((a1.length:Nat):Int)-1)).bind fun a7 =>
  (An a1 a7).bind fun a6 =>
  (apd 32 a2 ([(fold_Guess.mk (a3.Whole.1,a3.Whole.2) (api_Span.mk a5.Lo a6.Hi))])).bind fun a4 =>
  Gb a0 k2 a4) else (Gb a0 k2 a2)) else (Ho a2)
def F8 (F:Nat) (p0:(List fold_Guess)) (p1:(List api_Span)):Nat→Int→(List fold_Guess)→Option fold_Found
  | 0,_,_=>none
  | n+1,a1,a0=>F7 F p0 p1 (F8 F p0 p1 n) a1 a0
def Mw (F:Nat) (p0:(List fold_Guess)) (p1:(List api_Span)):Option fold_Found :=
  F8 F p0 p1 F 0 ([])
def Hk (a0:(List (List fold_Found))):Option ((List (List fold_Found))×Int) :=
  some (a0,0)
def Hl (a1:Int) (k3:(Int→(List (List fold_Found))→Option ((List (List fold_Found))×Int))) (a0:(List (List fold_Found))):Option ((List (List fold_Found))×Int) :=
  (ck (a1+1)).bind fun a2 =>
  k3 a2 a0
def F2 (a1:Int) (a6:Int) (a0:(List (List fold_Found))) (k5:(Int→(List (List fold_Found))→Option ((List (List fold_Found))×Int))) (a7:Int) (a2:(List fold_Guess)):Option ((List (List fold_Found))×Int) :=
  (An a0 a1).bind fun a5 =>
  (apd 32 a5 ([(fold_Found.mk a7 a2)])).bind fun a3 =>
  (An a0 a1).bind fun a9 =>
  (Ge a0 a1 a3).bind fun a4 =>
  (ck (a6+1)).bind fun a8 =>
  k5 a8 a4
def Ec (F:Nat) (a5:(List (List (List fold_Guess)))) (aB:(List (List (List api_Span)))) (a1:Int) (k3:(Int→(List (List fold_Found))→Option ((List (List fold_Found))×Int))) (a3:(List api_Echo)) (k5:(Int→(List (List fold_Found))→Option ((List (List fold_Found))×Int))) (a0:Int) (a2:(List (List fold_Found))):Option ((List (List fold_Found))×Int) :=
  bif (decide (a0<((a3.length:Nat):Int))) then ((An a3 a0).bind fun a6 =>
  bif (a6.Kind==3) then ((An a5 a1).bind fun a7 =>
  (An a7 a0).bind fun a8 =>
  (An aB a1).bind fun a9 =>
  (An a9 a0).bind fun aA =>
  (Mw F a8 aA).bind fun a4 =>
  F2 a1 a0 a2 k5 a4.State a4.Guesses) else (F2 a1 a0 a2 k5 1 ([]))) else (Hl a1 k3 a2)
def De (F:Nat) (a0:(List (List (List fold_Guess)))) (a3:(List (List (List api_Span)))) (a2:Int) (k3:(Int→(List (List fold_Found))→Option ((List (List fold_Found))×Int))) (a1:(List api_Echo)):Nat→Int→(List (List fold_Found))→Option ((List (List fold_Found))×Int)
  | 0,_,_=>none
  | n+1,a5,a4=>Ec F a0 a3 a2 k3 a1 (De F a0 a3 a2 k3 a1 n) a5 a4
def Eb (F:Nat) (p1:api_Sweep) (a2:(List (List (List fold_Guess)))) (a4:(List (List (List api_Span)))) (k3:(Int→(List (List fold_Found))→Option ((List (List fold_Found))×Int))) (a0:Int) (a1:(List (List fold_Found))):Option ((List (List fold_Found))×Int) :=
  bif (decide (a0<((p1.Rays.length:Nat):Int))) then ((An p1.Rays a0).bind fun a3 =>
  De F a2 a4 a0 k3 a3 F 0 a1) else (Hk a1)
def Dd (F:Nat) (p1:api_Sweep) (a0:(List (List (List fold_Guess)))) (a1:(List (List (List api_Span)))):Nat→Int→(List (List fold_Found))→Option ((List (List fold_Found))×Int)
  | 0,_,_=>none
  | n+1,a3,a2=>Eb F p1 a0 a1 (Dd F p1 a0 a1 n) a3 a2
def Fz (F:Nat) (p1:api_Sweep) (p3:Int) (p4:Int) (a0:(List (List (List api_Span)))) (a1:(List (List (List fold_Guess)))):Option ((List (List fold_Found))×Int) :=
  (Jp F a0 p3 p4).bind fun a3 =>
  (mkI 24 ((p1.Rays.length:Nat):Int) ([]:(List fold_Found))).bind fun a2 =>
  Dd F p1 a1 a3 F 0 a2
def Hm (a2:Int) (k7:((List (List (List api_Span)))→(List (List (List fold_Guess)))→Int→Option ((List (List fold_Found))×Int))) (a0:(List (List (List api_Span)))) (a1:(List (List (List fold_Guess)))):Option ((List (List fold_Found))×Int) :=
  (ck (a2+1)).bind fun a3 =>
  k7 a0 a1 a3
def Em (a2:Int) (k9:((List (List (List api_Span)))→(List (List (List fold_Guess)))→Int→Option ((List (List fold_Found))×Int))) (a0:(List (List (List api_Span)))) (a1:(List (List (List fold_Guess)))):Option ((List (List fold_Found))×Int) :=
  (ck (a2+1)).bind fun a3 =>
  k9 a0 a1 a3
def Fe (F:Nat) (a3:Int) (a1:(List (List (List api_Span)))) (a0:Int) (k9:((List (List (List api_Span)))→(List (List (List fold_Guess)))→Int→Option ((List (List fold_Found))×Int))) (a4:(List (List (List fold_Guess)))) (a5:(List api_Span)):Option ((List (List fold_Found))×Int) :=
  (An a1 a3).bind fun a2 =>
  (Bm F a5).bind fun a8 =>
  (An a2 a0).bind fun a9 =>
  (Ge a2 a0 a8).bind fun a6 =>
  (Ge a1 a3 a6).bind fun a7 =>
  Em a0 k9 a7 a4
def Dq (F:Nat) (a8:Int) (a4:(List (List (List api_Span)))) (a9:Int) (k9:((List (List (List api_Span)))→(List (List (List fold_Guess)))→Int→Option ((List (List fold_Found))×Int))) (a2:((List fold_Guess)×Bool)) (a5:(List (List (List fold_Guess)))) (a3:(Int→(List api_Span)→Option ((List (List fold_Found))×Int))) (a0:Int) (a1:(List api_Span)):Option ((List (List fold_Found))×Int) :=
  bif (decide (a0<((a2.1.length:Nat):Int))) then ((An a2.1 a0).bind fun a7 =>
  (apd 16 a1 ([a7.Speed])).bind fun a6 =>
  (ck (a0+1)).bind fun aA =>
  a3 aA a6) else (Fe F a8 a4 a9 k9 a5 a1)
def Dr (F:Nat) (a2:Int) (a0:(List (List (List api_Span)))) (a3:Int) (k9:((List (List (List api_Span)))→(List (List (List fold_Guess)))→Int→Option ((List (List fold_Found))×Int))) (a4:((List fold_Guess)×Bool)) (a1:(List (List (List fold_Guess)))):Nat→Int→(List api_Span)→Option ((List (List fold_Found))×Int)
  | 0,_,_=>none
  | n+1,a6,a5=>Dq F a2 a0 a3 k9 a4 a1 (Dr F a2 a0 a3 k9 a4 a1 n) a6 a5
def Ee (F:Nat) (p0:pulse_Train) (p2:Int) (a3:Int) (k7:((List (List (List api_Span)))→(List (List (List fold_Guess)))→Int→Option ((List (List fold_Found))×Int))) (a6:(List api_Echo)) (k9:((List (List (List api_Span)))→(List (List (List fold_Guess)))→Int→Option ((List (List fold_Found))×Int))) (a4:(List (List (List api_Span)))) (a2:(List (List (List fold_Guess)))) (a1:Int):Option ((List (List fold_Found))×Int) :=
  bif (decide (a1<((a6.length:Nat):Int))) then ((An a6 a1).bind fun a0 =>
  bif (a0.Kind != 3) then (Em a1 k9 a4 a2) else ((Ga F p0 (api_Echo.mk a0.Kind a0.Power ((api_Span.mk a0.Steps.1.Lo a0.Steps.1.Hi),(api_Span.mk a0.Steps.2.Lo a0.Steps.2.Hi)) a0.Spread a0.Ratio a0.Match a0.Turn) p2).bind fun a5 =>
  bif (!a5.2) then (some (([]:(List (List fold_Found))),9)) else ((An a2 a3).bind fun a7 =>
  (An a7 a1).bind fun aA =>
  (Ge a7 a1 a5.1).bind fun a8 =>
  (Ge a2 a3 a8).bind fun a9 =>
  Dr F a3 a4 a1 k9 a5 a9 F 0 ([])))) else (Hm a3 k7 a4 a2)
def Dg (F:Nat) (p0:pulse_Train) (p2:Int) (a1:Int) (k7:((List (List (List api_Span)))→(List (List (List fold_Guess)))→Int→Option ((List (List fold_Found))×Int))) (a0:(List api_Echo)):Nat→(List (List (List api_Span)))→(List (List (List fold_Guess)))→Int→Option ((List (List fold_Found))×Int)
  | 0,_,_,_=>none
  | n+1,a2,a3,a4=>Ee F p0 p2 a1 k7 a0 (Dg F p0 p2 a1 k7 a0 n) a2 a3 a4
def Ed (F:Nat) (p0:pulse_Train) (p1:api_Sweep) (p2:Int) (p3:Int) (p4:Int) (k7:((List (List (List api_Span)))→(List (List (List fold_Guess)))→Int→Option ((List (List fold_Found))×Int))) (a1:(List (List (List api_Span)))) (a2:(List (List (List fold_Guess)))) (a0:Int):Option ((List (List fold_Found))×Int) :=
  bif (decide (a0<((p1.Rays.length:Nat):Int))) then ((An p1.Rays a0).bind fun a3 =>
  (mkI 24 ((a3.length:Nat):Int) ([]:(List api_Span))).bind fun a4 =>
  (An a1 a0).bind fun a8 =>
  (mkI 24 ((a3.length:Nat):Int) ([]:(List fold_Guess))).bind fun a5 =>
  (Ge a1 a0 a4).bind fun a6 =>
  (An a2 a0).bind fun a9 =>
  (Ge a2 a0 a5).bind fun a7 =>
  Dg F p0 p2 a0 k7 a3 F a6 a7 0) else (Fz F p1 p3 p4 a1 a2)
def Df (F:Nat) (p0:pulse_Train) (p1:api_Sweep) (p2:Int) (p3:Int) (p4:Int):Nat→(List (List (List api_Span)))→(List (List (List fold_Guess)))→Int→Option ((List (List fold_Found))×Int)
  | 0,_,_,_=>none
  | n+1,a0,a1,a2=>Ed F p0 p1 p2 p3 p4 (Df F p0 p1 p2 p3 p4 n) a0 a1 a2
def Jo (F:Nat) (p0:pulse_Train) (p1:api_Sweep) (p2:Int) (p3:Int) (p4:Int):Option ((List (List fold_Found))×Int) :=
  (E8 F p0).bind fun y7 =>
  bif (y7 != 0) then (some (([]:(List (List fold_Found))),y7)) else ((D7 F p1).bind fun y8 =>
  bif (y8 != 0) then (some (([]:(List (List fold_Found))),y8)) else (bif (!(J0 p2)) then (some (([]:(List (List fold_Found))),3)) else (bif ((E4 p3 p4) != 0) then (some (([]:(List (List fold_Found))),(E4 p3 p4))) else ((mkI 24 ((p1.Rays.length:Nat):Int) ([]:(List (List api_Span)))).bind fun a0 =>
  (mkI 24 ((p1.Rays.length:Nat):Int) ([]:(List (List fold_Guess)))).bind fun a1 =>
  Df F p0 p1 p2 p3 p4 F a0 a1 0))))
def H7:Option Bool :=
  some M7
def Fb (a0:Int) (k2:(Int→Option Bool)):Option Bool :=
  (ck (a0+1)).bind fun a1 =>
  k2 a1
def D6 (a0:Int) (k4:(Int→Option Bool)):Option Bool :=
  (ck (a0+1)).bind fun a1 =>
  k4 a1
def Cj (a2:Int) (k4:(Int→Option Bool)) (a0:fold_Found) (a1:Bool):Option Bool :=
  bif (bif (bif (!a1) then true else (bif (a0.State != 2) then (a0.State != 3) else false)) then true else (!((a0.State==2)==(((a0.Guesses.length:Nat):Int)==1)))) then (some false) else (D6 a2 k4)
def Ci (a7:(api_Sweep×(List (List Int)))) (a6:Int) (a5:Int) (k4:(Int→Option Bool)) (a3:fold_Found) (k7:(Bool→Int→Option Bool)) (a0:Bool) (a1:Int):Option Bool :=
  bif (decide (a1<((a3.Guesses.length:Nat):Int))) then ((An a3.Guesses a1).bind fun a2 =>
  bif a0 then ((ck (a1+1)).bind fun aB =>
  k7 (bif a0 then true else (bif (decide (0≥0)) then (decide (0≤0)) else false)) aB) else ((An a7.2 a6).bind fun a8 =>
  (An a8 a5).bind fun a4 =>
  bif (decide (a4≥a2.Speed.Lo)) then ((An a7.2 a6).bind fun a9 =>
  (An a9 a5).bind fun aA =>
  (ck (a1+1)).bind fun aC =>
  k7 (bif a0 then true else (bif (decide (a4≥a2.Speed.Lo)) then (decide (aA≤a2.Speed.Hi)) else false)) aC) else ((ck (a1+1)).bind fun aD =>
  k7 (bif a0 then true else (bif (decide (a4≥a2.Speed.Lo)) then (decide (0≤0)) else false)) aD))) else (Cj a5 k4 a3 a0)
def Bp (a3:(api_Sweep×(List (List Int)))) (a1:Int) (a2:Int) (k4:(Int→Option Bool)) (a0:fold_Found):Nat→Bool→Int→Option Bool
  | 0,_,_=>none
  | n+1,a4,a5=>Ci a3 a1 a2 k4 a0 (Bp a3 a1 a2 k4 a0 n) a4 a5
def Ch (F:Nat) (a4:(api_Sweep×(List (List Int)))) (a2:Int) (k2:(Int→Option Bool)) (a3:(List fold_Found)) (k4:(Int→Option Bool)) (a0:Int):Option Bool :=
  bif (decide (a0<((a3.length:Nat):Int))) then ((An a3 a0).bind fun a1 =>
  (An a4.1.Rays a2).bind fun a5 =>
  (An a5 a0).bind fun a6 =>
  bif (a6.Kind != 3) then (bif (bif (a1.State != 1) then true else (((a1.Guesses.length:Nat):Int) != 0)) then (some false) else (D6 a0 k4)) else (Bp a4 a2 a0 k4 a1 F false 0)) else (Fb a2 k2)
def Bf (F:Nat) (a2:(api_Sweep×(List (List Int)))) (a1:Int) (k2:(Int→Option Bool)) (a0:(List fold_Found)):Nat→Int→Option Bool
  | 0,_=>none
  | n+1,a3=>Ch F a2 a1 k2 a0 (Bf F a2 a1 k2 a0 n) a3
def Cg (F:Nat) (a2:(api_Sweep×(List (List Int)))) (a3:((List (List fold_Found))×Int)) (k2:(Int→Option Bool)) (a0:Int):Option Bool :=
  bif (decide (a0<((a3.1.length:Nat):Int))) then ((An a3.1 a0).bind fun a1 =>
  (An a2.2 a0).bind fun a4 =>
  bif (((a1.length:Nat):Int) != ((a4.length:Nat):Int)) then (some false) else (Bf F a2 a0 k2 a1 F 0)) else (H7)
def Ck (F:Nat) (a0:(api_Sweep×(List (List Int)))) (a1:((List (List fold_Found))×Int)):Nat→Int→Option Bool
  | 0,_=>none
  | n+1,a2=>Cg F a0 a1 (Ck F a0 a1 n) a2
def Fi (F:Nat) (p0:law03_Air) (p1:Int):Option Bool :=
  (Fh F p0).bind fun a0 =>
  (ck p0.Jump).bind fun a2 =>
  (Hu a2 8000).bind fun a3 =>
  (ck p1).bind fun a4 =>
  (Hu a4 4).bind fun a5 =>
  (ck (1+a5)).bind fun a6 =>
  (Dw F p0).bind fun a7 =>
  (Jo F a7 (api_Sweep.mk (api_Site.mk a0.1.Site.Name a0.1.Site.X a0.1.Site.Y a0.1.Site.Z a0.1.Site.Rose a0.1.Site.Gates a0.1.Site.Step a0.1.Site.Width) a0.1.Tilt a0.1.Time a0.1.Rays) 60000 a3 a6).bind fun a1 =>
  bif (bif (a1.2 != 0) then true else (((a1.1.length:Nat):Int) != ((a0.2.length:Nat):Int))) then (some false) else (Ck F a0 a1 F 0)
end Go.Proofs.Ytbhjgebjojdohaa
