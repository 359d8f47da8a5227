import Derived.Test.YtkdhnnfokfchpaaGreatProg
import Derived.Test.YtkdhnnfokfchpaaGreatB3EB
namespace Go.Proofs.YtkdhnnfokfchpaaGreat
open Go Go.RowKit Go.Eng
set_option maxRecDepth 10000
set_option maxHeartbeats 4000000
set_option linter.unusedVariables false
set_option linter.unusedSimpArgs false
structure top_Unfolded where
  Kind:Int
  Lambda:Int
  First:Int
  Second:Int
  Count:Int
  Gates:Int
  Base:Int
  Speeds:(List Int)
  Jump:Int
  Slip:Int
  Slips:(List Int)
  Loud:(List Int)
  deriving Inhabited,DecidableEq
structure pulse_Train where
  Lambda:Int
  Kind:Int
  First:Int
  Second:Int
  Count:Int
  deriving Inhabited,DecidableEq
def pulse_Train.cells (x:pulse_Train):List Value:=[.int .i64 x.Lambda,.int .i64 x.Kind,.int .i64 x.First,.int .i64 x.Second,.int .i64 x.Count]
structure beam_vector where
  x:Int
  y:Int
  length:Int
  deriving Inhabited,DecidableEq
structure api_Span where
  Lo:Int
  Hi:Int
  deriving Inhabited,DecidableEq
def api_Span.cells (x:api_Span):List Value:=[.int .i64 x.Lo,.int .i64 x.Hi]
theorem api_Span.cells_len (x:api_Span):(api_Span.cells x).length=2:=rfl
structure pulse_Receiver where
  Level:Int
  Phase:Int
  Noise:api_Span
  deriving Inhabited,DecidableEq
structure pulse_Sample where
  H:Int
  P:Int
  V:Int
  Q:Int
  deriving Inhabited,DecidableEq
def pulse_Sample.cells (x:pulse_Sample):List Value:=[.int .i64 x.H,.int .i64 x.P,.int .i64 x.V,.int .i64 x.Q]
theorem pulse_Sample.cells_len (x:pulse_Sample):(pulse_Sample.cells x).length=4:=rfl
structure pulse_arc where
  base:Int
  width:Int
  sum:Int
  count:Int
  deriving Inhabited,DecidableEq
structure api_Echo where
  Kind:Int
  Power:api_Span
  Steps:(api_Span×api_Span)
  Spread:Int
  Ratio:api_Span
  Match:api_Span
  Turn:api_Span
  deriving Inhabited,DecidableEq
def api_Echo.cells (x:api_Echo):List Value:=[.int .i64 x.Kind,.int .i64 x.Power.Lo,.int .i64 x.Power.Hi,.int .i64 x.Steps.1.Lo,.int .i64 x.Steps.1.Hi,.int .i64 x.Steps.2.Lo,.int .i64 x.Steps.2.Hi,.int .i64 x.Spread,.int .i64 x.Ratio.Lo,.int .i64 x.Ratio.Hi,.int .i64 x.Match.Lo,.int .i64 x.Match.Hi,.int .i64 x.Turn.Lo,.int .i64 x.Turn.Hi]
theorem api_Echo.cells_len (x:api_Echo):(api_Echo.cells x).length=14:=rfl
structure top_Blown where
  U:Int
  V:Int
  Rose:Int
  Air:top_Unfolded
  Another:Int
  deriving Inhabited,DecidableEq
structure api_Site where
  Name:ByteArray
  X:Int
  Y:Int
  Z:Int
  Rose:Int
  Gates:Int
  Step:Int
  Width:Int
  deriving Inhabited,DecidableEq
structure api_Sweep where
  Site:api_Site
  Tilt:Int
  Time:Int
  Rays:(List (List api_Echo))
  deriving Inhabited,DecidableEq
structure fold_option where
  whole:Int
  speed:api_Span
  deriving Inhabited,DecidableEq
def fold_option.cells (x:fold_option):List Value:=[.int .i64 x.whole,.int .i64 x.speed.Lo,.int .i64 x.speed.Hi]
theorem fold_option.cells_len (x:fold_option):(fold_option.cells x).length=3:=rfl
structure fold_Guess where
  Whole:(Int×Int)
  Speed:api_Span
  deriving Inhabited,DecidableEq
def fold_Guess.cells (x:fold_Guess):List Value:=[.int .i64 x.Whole.1,.int .i64 x.Whole.2,.int .i64 x.Speed.Lo,.int .i64 x.Speed.Hi]
theorem fold_Guess.cells_len (x:fold_Guess):(fold_Guess.cells x).length=4:=rfl
structure fold_place where
  ray:Int
  gate:Int
  deriving Inhabited,DecidableEq
def fold_place.cells (x:fold_place):List Value:=[.int .i64 x.ray,.int .i64 x.gate]
theorem fold_place.cells_len (x:fold_place):(fold_place.cells x).length=2:=rfl
structure fold_bond where
  to:fold_place
  most:Int
  deriving Inhabited,DecidableEq
def fold_bond.cells (x:fold_bond):List Value:=[.int .i64 x.to.ray,.int .i64 x.to.gate,.int .i64 x.most]
theorem fold_bond.cells_len (x:fold_bond):(fold_bond.cells x).length=3:=rfl
structure fold_web where
  sets:(List (List (List api_Span)))
  bonds:(List (fold_place×(List fold_bond)))
  deriving Inhabited,DecidableEq
structure fold_Found where
  State:Int
  Guesses:(List fold_Guess)
  deriving Inhabited,DecidableEq
structure beam_slant where
  c:Int
  s:Int
  d:Int
  deriving Inhabited,DecidableEq
structure wind_Sight where
  X:Int
  Y:Int
  L:Int
  Speed:api_Span
  deriving Inhabited,DecidableEq
def wind_Sight.cells (x:wind_Sight):List Value:=[.int .i64 x.X,.int .i64 x.Y,.int .i64 x.L,.int .i64 x.Speed.Lo,.int .i64 x.Speed.Hi]
theorem wind_Sight.cells_len (x:wind_Sight):(wind_Sight.cells x).length=5:=rfl
structure wind_Ray where
  Ray:Int
  Speed:api_Span
  deriving Inhabited,DecidableEq
def wind_Ray.cells (x:wind_Ray):List Value:=[.int .i64 x.Ray,.int .i64 x.Speed.Lo,.int .i64 x.Speed.Hi]
theorem wind_Ray.cells_len (x:wind_Ray):(wind_Ray.cells x).length=3:=rfl
structure wind_border where
  a:Int
  b:Int
  c:Int
  deriving Inhabited,DecidableEq
def wind_border.cells (x:wind_border):List Value:=[.int .i64 x.a,.int .i64 x.b,.int .i64 x.c]
theorem wind_border.cells_len (x:wind_border):(wind_border.cells x).length=3:=rfl
structure wind_area where
  circle:(List wind_border)
  deriving Inhabited,DecidableEq
structure wind_corner where
  u:Int
  v:Int
  d:Int
  deriving Inhabited,DecidableEq
structure wind_big where
  high:Int
  low:Int
  deriving Inhabited,DecidableEq
structure wind_Wind where
  U:api_Span
  V:api_Span
  deriving Inhabited,DecidableEq
abbrev pulse_Train.ar (x:pulse_Train):Array Value:=#[.int .i64 x.Lambda,.int .i64 x.Kind,.int .i64 x.First,.int .i64 x.Second,.int .i64 x.Count]
abbrev pulse_Train.ag (x:pulse_Train):Value:=.agg #[.int .i64 x.Lambda,.int .i64 x.Kind,.int .i64 x.First,.int .i64 x.Second,.int .i64 x.Count]
abbrev beam_vector.ar (x:beam_vector):Array Value:=#[.int .i64 x.x,.int .i64 x.y,.int .i64 x.length]
abbrev beam_vector.ag (x:beam_vector):Value:=.agg #[.int .i64 x.x,.int .i64 x.y,.int .i64 x.length]
abbrev pulse_Receiver.ar (x:pulse_Receiver):Array Value:=#[.int .i64 x.Level,.int .i64 x.Phase,.int .i64 x.Noise.Lo,.int .i64 x.Noise.Hi]
abbrev pulse_Receiver.ag (x:pulse_Receiver):Value:=.agg #[.int .i64 x.Level,.int .i64 x.Phase,.int .i64 x.Noise.Lo,.int .i64 x.Noise.Hi]
abbrev pulse_Sample.ar (x:pulse_Sample):Array Value:=#[.int .i64 x.H,.int .i64 x.P,.int .i64 x.V,.int .i64 x.Q]
abbrev pulse_Sample.ag (x:pulse_Sample):Value:=.agg #[.int .i64 x.H,.int .i64 x.P,.int .i64 x.V,.int .i64 x.Q]
abbrev pulse_arc.ar (x:pulse_arc):Array Value:=#[.int .i64 x.base,.int .i64 x.width,.int .i64 x.sum,.int .i64 x.count]
abbrev pulse_arc.ag (x:pulse_arc):Value:=.agg #[.int .i64 x.base,.int .i64 x.width,.int .i64 x.sum,.int .i64 x.count]
abbrev api_Echo.ar (x:api_Echo):Array Value:=#[.int .i64 x.Kind,.int .i64 x.Power.Lo,.int .i64 x.Power.Hi,.int .i64 x.Steps.1.Lo,.int .i64 x.Steps.1.Hi,.int .i64 x.Steps.2.Lo,.int .i64 x.Steps.2.Hi,.int .i64 x.Spread,.int .i64 x.Ratio.Lo,.int .i64 x.Ratio.Hi,.int .i64 x.Match.Lo,.int .i64 x.Match.Hi,.int .i64 x.Turn.Lo,.int .i64 x.Turn.Hi]
abbrev api_Echo.ag (x:api_Echo):Value:=.agg #[.int .i64 x.Kind,.int .i64 x.Power.Lo,.int .i64 x.Power.Hi,.int .i64 x.Steps.1.Lo,.int .i64 x.Steps.1.Hi,.int .i64 x.Steps.2.Lo,.int .i64 x.Steps.2.Hi,.int .i64 x.Spread,.int .i64 x.Ratio.Lo,.int .i64 x.Ratio.Hi,.int .i64 x.Match.Lo,.int .i64 x.Match.Hi,.int .i64 x.Turn.Lo,.int .i64 x.Turn.Hi]
abbrev api_Site.ar (x:api_Site):Array Value:=#[.string x.Name,.int .i64 x.X,.int .i64 x.Y,.int .i64 x.Z,.int .i64 x.Rose,.int .i64 x.Gates,.int .i64 x.Step,.int .i64 x.Width]
abbrev api_Site.ag (x:api_Site):Value:=.agg #[.string x.Name,.int .i64 x.X,.int .i64 x.Y,.int .i64 x.Z,.int .i64 x.Rose,.int .i64 x.Gates,.int .i64 x.Step,.int .i64 x.Width]
abbrev fold_option.ar (x:fold_option):Array Value:=#[.int .i64 x.whole,.int .i64 x.speed.Lo,.int .i64 x.speed.Hi]
abbrev fold_option.ag (x:fold_option):Value:=.agg #[.int .i64 x.whole,.int .i64 x.speed.Lo,.int .i64 x.speed.Hi]
abbrev fold_Guess.ar (x:fold_Guess):Array Value:=#[.int .i64 x.Whole.1,.int .i64 x.Whole.2,.int .i64 x.Speed.Lo,.int .i64 x.Speed.Hi]
abbrev fold_Guess.ag (x:fold_Guess):Value:=.agg #[.int .i64 x.Whole.1,.int .i64 x.Whole.2,.int .i64 x.Speed.Lo,.int .i64 x.Speed.Hi]
abbrev fold_bond.ar (x:fold_bond):Array Value:=#[.int .i64 x.to.ray,.int .i64 x.to.gate,.int .i64 x.most]
abbrev fold_bond.ag (x:fold_bond):Value:=.agg #[.int .i64 x.to.ray,.int .i64 x.to.gate,.int .i64 x.most]
abbrev beam_slant.ar (x:beam_slant):Array Value:=#[.int .i64 x.c,.int .i64 x.s,.int .i64 x.d]
abbrev beam_slant.ag (x:beam_slant):Value:=.agg #[.int .i64 x.c,.int .i64 x.s,.int .i64 x.d]
abbrev wind_Sight.ar (x:wind_Sight):Array Value:=#[.int .i64 x.X,.int .i64 x.Y,.int .i64 x.L,.int .i64 x.Speed.Lo,.int .i64 x.Speed.Hi]
abbrev wind_Sight.ag (x:wind_Sight):Value:=.agg #[.int .i64 x.X,.int .i64 x.Y,.int .i64 x.L,.int .i64 x.Speed.Lo,.int .i64 x.Speed.Hi]
abbrev wind_Ray.ar (x:wind_Ray):Array Value:=#[.int .i64 x.Ray,.int .i64 x.Speed.Lo,.int .i64 x.Speed.Hi]
abbrev wind_Ray.ag (x:wind_Ray):Value:=.agg #[.int .i64 x.Ray,.int .i64 x.Speed.Lo,.int .i64 x.Speed.Hi]
abbrev wind_border.ar (x:wind_border):Array Value:=#[.int .i64 x.a,.int .i64 x.b,.int .i64 x.c]
abbrev wind_border.ag (x:wind_border):Value:=.agg #[.int .i64 x.a,.int .i64 x.b,.int .i64 x.c]
abbrev wind_corner.ar (x:wind_corner):Array Value:=#[.int .i64 x.u,.int .i64 x.v,.int .i64 x.d]
abbrev wind_corner.ag (x:wind_corner):Value:=.agg #[.int .i64 x.u,.int .i64 x.v,.int .i64 x.d]
abbrev wind_Wind.ar (x:wind_Wind):Array Value:=#[.int .i64 x.U.Lo,.int .i64 x.U.Hi,.int .i64 x.V.Lo,.int .i64 x.V.Hi]
abbrev wind_Wind.ag (x:wind_Wind):Value:=.agg #[.int .i64 x.U.Lo,.int .i64 x.U.Hi,.int .i64 x.V.Lo,.int .i64 x.V.Hi]
abbrev top_Blown.ax (x:top_Blown) (adg1_:Option Addr) (capg2_:Nat) (adg3_:Option Addr) (capg4_:Nat) (adg5_:Option Addr) (capg6_:Nat):Array Value:=#[.int .i16 x.U,.int .i16 x.V,.int .u8 x.Rose,.int .u8 x.Air.Kind,.int .u8 x.Air.Lambda,.int .u8 x.Air.First,.int .u8 x.Air.Second,.int .u8 x.Air.Count,.int .u8 x.Air.Gates,.int .i16 x.Air.Base,.slice adg1_ x.Air.Speeds.length capg2_,.int .u16 x.Air.Jump,.int .u8 x.Air.Slip,.slice adg3_ x.Air.Slips.length capg4_,.slice adg5_ x.Air.Loud.length capg6_,.int .u8 x.Another]
abbrev top_Unfolded.ax (x:top_Unfolded) (adg1_:Option Addr) (capg2_:Nat) (adg3_:Option Addr) (capg4_:Nat) (adg5_:Option Addr) (capg6_:Nat):Array Value:=#[.int .u8 x.Kind,.int .u8 x.Lambda,.int .u8 x.First,.int .u8 x.Second,.int .u8 x.Count,.int .u8 x.Gates,.int .i16 x.Base,.slice adg1_ x.Speeds.length capg2_,.int .u16 x.Jump,.int .u8 x.Slip,.slice adg3_ x.Slips.length capg4_,.slice adg5_ x.Loud.length capg6_]
abbrev api_Sweep.ax (x:api_Sweep) (adg1_:Option Addr) (capg2_:Nat):Array Value:=#[.string x.Site.Name,.int .i64 x.Site.X,.int .i64 x.Site.Y,.int .i64 x.Site.Z,.int .i64 x.Site.Rose,.int .i64 x.Site.Gates,.int .i64 x.Site.Step,.int .i64 x.Site.Width,.int .i64 x.Tilt,.int .i64 x.Time,.slice adg1_ x.Rays.length capg2_]
abbrev pulse_Train.e0 (x:pulse_Train):Bool:=(((x.Lambda:Int)==0)&&(((x.Kind:Int)==0)&&(((x.First:Int)==0)&&(((x.Second:Int)==0)&&(((x.Count:Int)==0)&&true)))))
abbrev beam_vector.e0 (x:beam_vector):Bool:=(((x.x:Int)==0)&&(((x.y:Int)==0)&&(((x.length:Int)==0)&&true)))
abbrev pulse_Receiver.e0 (x:pulse_Receiver):Bool:=(((x.Level:Int)==0)&&(((x.Phase:Int)==0)&&(((x.Noise.Lo:Int)==0)&&(((x.Noise.Hi:Int)==0)&&true))))
abbrev pulse_Sample.e0 (x:pulse_Sample):Bool:=(((x.H:Int)==0)&&(((x.P:Int)==0)&&(((x.V:Int)==0)&&(((x.Q:Int)==0)&&true))))
abbrev pulse_arc.e0 (x:pulse_arc):Bool:=(((x.base:Int)==0)&&(((x.width:Int)==0)&&(((x.sum:Int)==0)&&(((x.count:Int)==0)&&true))))
abbrev api_Echo.e0 (x:api_Echo):Bool:=(((x.Kind:Int)==0)&&(((x.Power.Lo:Int)==0)&&(((x.Power.Hi:Int)==0)&&(((x.Steps.1.Lo:Int)==0)&&(((x.Steps.1.Hi:Int)==0)&&(((x.Steps.2.Lo:Int)==0)&&(((x.Steps.2.Hi:Int)==0)&&(((x.Spread:Int)==0)&&(((x.Ratio.Lo:Int)==0)&&(((x.Ratio.Hi:Int)==0)&&(((x.Match.Lo:Int)==0)&&(((x.Match.Hi:Int)==0)&&(((x.Turn.Lo:Int)==0)&&(((x.Turn.Hi:Int)==0)&&true))))))))))))))
abbrev api_Site.e0 (x:api_Site):Bool:=((x.Name==ByteArray.empty)&&(((x.X:Int)==0)&&(((x.Y:Int)==0)&&(((x.Z:Int)==0)&&(((x.Rose:Int)==0)&&(((x.Gates:Int)==0)&&(((x.Step:Int)==0)&&(((x.Width:Int)==0)&&true))))))))
abbrev fold_option.e0 (x:fold_option):Bool:=(((x.whole:Int)==0)&&(((x.speed.Lo:Int)==0)&&(((x.speed.Hi:Int)==0)&&true)))
abbrev fold_Guess.e0 (x:fold_Guess):Bool:=(((x.Whole.1:Int)==0)&&(((x.Whole.2:Int)==0)&&(((x.Speed.Lo:Int)==0)&&(((x.Speed.Hi:Int)==0)&&true))))
abbrev fold_bond.e0 (x:fold_bond):Bool:=(((x.to.ray:Int)==0)&&(((x.to.gate:Int)==0)&&(((x.most:Int)==0)&&true)))
abbrev beam_slant.e0 (x:beam_slant):Bool:=(((x.c:Int)==0)&&(((x.s:Int)==0)&&(((x.d:Int)==0)&&true)))
abbrev wind_Sight.e0 (x:wind_Sight):Bool:=(((x.X:Int)==0)&&(((x.Y:Int)==0)&&(((x.L:Int)==0)&&(((x.Speed.Lo:Int)==0)&&(((x.Speed.Hi:Int)==0)&&true)))))
abbrev wind_Ray.e0 (x:wind_Ray):Bool:=(((x.Ray:Int)==0)&&(((x.Speed.Lo:Int)==0)&&(((x.Speed.Hi:Int)==0)&&true)))
abbrev wind_border.e0 (x:wind_border):Bool:=(((x.a:Int)==0)&&(((x.b:Int)==0)&&(((x.c:Int)==0)&&true)))
abbrev wind_corner.e0 (x:wind_corner):Bool:=(((x.u:Int)==0)&&(((x.v:Int)==0)&&(((x.d:Int)==0)&&true)))
abbrev wind_Wind.e0 (x:wind_Wind):Bool:=(((x.U.Lo:Int)==0)&&(((x.U.Hi:Int)==0)&&(((x.V.Lo:Int)==0)&&(((x.V.Hi:Int)==0)&&true))))
abbrev z30:Array Value:=#[.int .i16 0,.int .i16 0,.int .u8 0,.int .u8 0,.int .u8 0,.int .u8 0,.int .u8 0,.int .u8 0,.int .u8 0,.int .i16 0,.slice none 0 0,.int .u16 0,.int .u8 0,.slice none 0 0,.slice none 0 0,.int .u8 0]
abbrev z95:Array Value:=#[.int .i64 0,.int .i64 0,.int .i64 0,.int .i64 0,.int .i64 0,.int .i64 0,.int .i64 0,.int .i64 0,.int .i64 0,.int .i64 0,.int .i64 0,.int .i64 0,.int .i64 0,.int .i64 0]
abbrev z28:Array Value:=#[.int .u8 0,.int .u8 0,.int .u8 0,.int .u8 0,.int .u8 0,.int .u8 0,.int .i16 0,.slice none 0 0,.int .u16 0,.int .u8 0,.slice none 0 0,.slice none 0 0]
abbrev z55:Array Value:=#[.string ByteArray.empty,.int .i64 0,.int .i64 0,.int .i64 0,.int .i64 0,.int .i64 0,.int .i64 0,.int .i64 0,.int .i64 0,.int .i64 0,.slice none 0 0]
abbrev z62:Array Value:=#[.int .i64 0,.int .i64 0,.int .i64 0,.int .i64 0,.int .i64 0]
abbrev Mr:Array Value:=#[.int .i64 0,.int .i64 0,.int .i64 0,.int .i64 0]
def Rp103:Rel (List api_Echo):=fun μ cs x=>∃(ad1:Option Addr) (cap2:Nat),cs=[.slice ad1 x.length cap2]/\ArrM μ 14 api_Echo.cells ad1 cap2 x
theorem Rp103.mono:Rel.Mono Rp103:=by
  intro μ ν cs x hle h;obtain ⟨ad1,cap2,rfl,f0⟩:=h;exact ⟨ad1,cap2,rfl,f0.mono hle⟩
instance:RM Rp103:=⟨Rp103.mono⟩
theorem Rp103.one:Rel.One 1 Rp103:=by
  intro μ cs x h;obtain ⟨ad1,cap2,rfl,f0⟩:=h
  all_goals rfl
def Rp115:Rel (List api_Span):=fun μ cs x=>∃(ad1:Option Addr) (cap2:Nat),cs=[.slice ad1 x.length cap2]/\ArrM μ 2 api_Span.cells ad1 cap2 x
theorem Rp115.mono:Rel.Mono Rp115:=by
  intro μ ν cs x hle h;obtain ⟨ad1,cap2,rfl,f0⟩:=h;exact ⟨ad1,cap2,rfl,f0.mono hle⟩
instance:RM Rp115:=⟨Rp115.mono⟩
theorem Rp115.one:Rel.One 1 Rp115:=by
  intro μ cs x h;obtain ⟨ad1,cap2,rfl,f0⟩:=h
  all_goals rfl
def Rp110:Rel (List (List api_Span)):=fun μ cs x=>∃(ad1:Option Addr) (cap2:Nat) (css3:List (List Value)),cs=[.slice ad1 x.length cap2]/\ArrQ μ 1 Rp115 ad1 cap2 css3 x
theorem Rp110.mono:Rel.Mono Rp110:=by
  intro μ ν cs x hle h;obtain ⟨ad1,cap2,css3,rfl,f0⟩:=h;exact ⟨ad1,cap2,css3,rfl,f0.mono Rp115.mono hle⟩
instance:RM Rp110:=⟨Rp110.mono⟩
def Rp66:Rel (List fold_Guess):=fun μ cs x=>∃(ad1:Option Addr) (cap2:Nat),cs=[.slice ad1 x.length cap2]/\ArrM μ 4 fold_Guess.cells ad1 cap2 x
theorem Rp66.mono:Rel.Mono Rp66:=by
  intro μ ν cs x hle h;obtain ⟨ad1,cap2,rfl,f0⟩:=h;exact ⟨ad1,cap2,rfl,f0.mono hle⟩
instance:RM Rp66:=⟨Rp66.mono⟩
def Rp68:Rel fold_Found:=fun μ cs x=>∃(ad1:Option Addr) (cap2:Nat),cs=[.int .i64 x.State,.slice ad1 x.Guesses.length cap2]/\ArrM μ 4 fold_Guess.cells ad1 cap2 x.Guesses
theorem Rp68.mono:Rel.Mono Rp68:=by
  intro μ ν cs x hle h;obtain ⟨ad1,cap2,rfl,f0⟩:=h;exact ⟨ad1,cap2,rfl,f0.mono hle⟩
instance:RM Rp68:=⟨Rp68.mono⟩
theorem Rp68.one:Rel.One 2 Rp68:=by
  intro μ cs x h;obtain ⟨ad1,cap2,rfl,f0⟩:=h
  all_goals rfl
def Rp65:Rel (List fold_Found):=fun μ cs x=>∃(ad1:Option Addr) (cap2:Nat) (css3:List (List Value)),cs=[.slice ad1 x.length cap2]/\ArrQ μ 2 Rp68 ad1 cap2 css3 x
theorem Rp65.mono:Rel.Mono Rp65:=by
  intro μ ν cs x hle h;obtain ⟨ad1,cap2,css3,rfl,f0⟩:=h;exact ⟨ad1,cap2,css3,rfl,f0.mono Rp68.mono hle⟩
def Jp (p0:ByteArray):Bool:=B07 p0
def spB (s:api_Span):Prop:=-4000000000000000000<=s.Lo/\s.Lo<=4000000000000000000
instance (s:api_Span):Decidable (spB s):=by unfold spB;infer_instance
instance:Inhabited {s:api_Span // spB s}:=⟨⟨⟨0,0⟩,by decide⟩⟩
def Lm (x y:{s:api_Span // spB s}):Int:=x.val.Lo-y.val.Lo
def G4 (F:Nat) (p0:List api_Span):Option (List api_Span):=if h:(∀s∈p0,spB s)/\p0.length<4611686018427387904 then some ((T3 Lm (p0.pmap Subtype.mk h.1)).map Subtype.val) else none
def Uh (x:Int):List Int->List Int
  | []=>[x]
  | y::l=>bif decide (x<=y) then x::y::l else y::Uh x l
def sortI:List Int->List Int
  | []=>[]
  | x::l=>Uh x (sortI l)
def Lf (F:Nat) (p0:List Int):Option (List Int):=if p0.length<=1000000 then some (sortI p0) else none
def Rq:Int->List Int->List Int
  | _,[]=>[]
  | p,x::xs=>bif x==p then Rq x xs else x::Rq x xs
def Mh:List Int->List Int
  | []=>[]
  | x::xs=>x::Rq x xs
def Km (F:Nat) (p0:List Int):Option (List Int):=if p0.length<=1000000 then some (Mh p0) else none
def wv (n:wind_big):Int:=n.high*18446744073709551616+n.low
def wb (v:Int):wind_big:=⟨v%340282366920938463463374607431768211456/18446744073709551616,v%18446744073709551616⟩
def okU (x:Int):Bool:=decide (0<=x)&&decide (x<18446744073709551616)
def okI (x:Int):Bool:=decide (-9223372036854775808<=x)&&decide (x<9223372036854775808)
def Dv (F:Nat) (p0:wind_big) (p1 p2:Int):Option wind_big:=bif (okU p0.high&&okU p0.low)&&(okI p1&&okI p2) then some (wb (wv p0+p1*p2)) else none
def wsg (n:wind_big):Int:=bif decide (9223372036854775808<=n.high) then n.high*18446744073709551616+n.low-340282366920938463463374607431768211456 else n.high*18446744073709551616+n.low
def J1 (F:Nat) (p0:wind_big) (p1:Int):Option Int:=bif (okU p0.high&&okU p0.low)&&((decide (0<p1)&&okI p1)&&(decide (-4611686018427387904<=wsg p0)&&decide (wsg p0<=4611686018427387904))) then some (wsg p0/p1) else none
def Du (F:Nat) (p0:top_Unfolded):Option pulse_Train:=(ck p0.Lambda).bind λa4=>(ck (200*a4)).bind λa5=>(ck (60000+a5)).bind λa2=>(ck p0.Kind).bind λa6=>(Ht a6 3).bind λa7=>(ck (1+a7)).bind λa0=>(ck p0.First).bind λa8=>(ck (4*a8)).bind λa9=>(ck (400+a9)).bind λa1=>(ck p0.Count).bind λaA=>(Ht aA 5).bind λaB=>(ck (2*aB)).bind λaC=>(ck (4+aC)).bind λa3=>bif (a0 != 1) then ((ck (a1+1)).bind λaD=>(ck p0.Second).bind λaE=>(ck (4*aE)).bind λaF=>(ck (aD+aF)).bind λaG=>some (pulse_Train.mk a2 a0 a1 aG a3)) else (some (pulse_Train.mk a2 a0 a1 0 a3))
def An (p0:Int) (p1:Int) (p2:Int):Bool:=bif (decide (p1<=p0)) then (decide (p0<=p2)) else false
def N5 (F:Nat) (p0:Int) (p1:Int):Option beam_vector:=(Ht p1 p0).bind λx2=>(ck (2*p0)).bind λx3=>(ck (x3*x2)).bind λx4=>(ck (p0*p0)).bind λx5=>(ck (x2*x2)).bind λx6=>(ck (x5-x6)).bind λx7=>(ck (p0*p0)).bind λx8=>(ck (x2*x2)).bind λx9=>(ck (x8+x9)).bind λa0=>(Pd p1 p0).bind λa1=>bif (a1==0) then (some (beam_vector.mk x4 x7 a0)) else (bif (a1==1) then (bif (a1==0) then (some (beam_vector.mk x4 x7 a0)) else (some (beam_vector.mk x7 (IntKind.i64.wrap (0-x4)) a0))) else (bif (a1==0) then (some (beam_vector.mk x4 x7 a0)) else (bif (a1==2) then (bif (a1==0) then (some (beam_vector.mk x4 x7 a0)) else (some (beam_vector.mk (IntKind.i64.wrap (0-x4)) (IntKind.i64.wrap (0-x7)) a0))) else (bif (a1==0) then (some (beam_vector.mk x4 x7 a0)) else (bif (a1==3) then (bif (a1==0) then (some (beam_vector.mk x4 x7 a0)) else (some (beam_vector.mk (IntKind.i64.wrap (0-x7)) x4 a0))) else (bif (a1==0) then (some (beam_vector.mk x4 x7 a0)) else (none)))))))
def beam_Direction (F:Nat) (p0:Int) (p1:Int):Option (Int×Int×Int×Int):=(gd (((!(An p0 1 180))==false&&true)) (ck (4*p0)) 0).bind λx1=>(gd (((!(An p0 1 180))==false&&true)) (ck (x1-1)) 0).bind λx2=>bif (bif (!(An p0 1 180)) then true else (!(An p1 0 x2))) then (none) else ((N5 F p0 p1).bind λy3=>some (y3.x,y3.y,y3.length,0))
def A9 (p0:Int) (p1:Int) (p2:Int):Bool:=bif (decide (p1<=p0)) then (decide (p0<=p2)) else false
def Fc (p0:pulse_Train) (x3:Int) (c5:Bool):Option Int:=bif (bif (bif (bif (!c5) then true else (!(A9 p0.Lambda 10000 1000000))) then true else (!(A9 p0.First 200 5000))) then true else (!(A9 p0.Count x3 64))) then (some 3) else (some 0)
def Dz (p0:pulse_Train) (x3:Int) (c4:Bool):Option Int:=bif (p0.Kind != 1) then (Fc p0 x3 (bif (bif c4 then (A9 p0.Second 200 5000) else false) then (decide (p0.First<p0.Second)) else false)) else (Fc p0 x3 c4)
def Da (F:Nat) (p0:pulse_Train):Option Int:=bif (p0.Kind==1) then (Dz p0 2 (p0.Second==0)) else (bif (p0.Kind==2) then ((Ht p0.Count 2).bind λx8=>Dz p0 4 (x8==0)) else (bif (p0.Kind==3) then (Dz p0 3 true) else (some 2)))
def Ah (p0:api_Span) (p1:Int) (p2:Int):Bool:=bif (bif (decide (p1<=p0.Lo)) then (decide (p0.Lo<=p0.Hi)) else false) then (decide (p0.Hi<=p2)) else false
def Fa (F:Nat) (p0:pulse_Receiver):Option Int:=bif (bif (bif (!(A9 p0.Level 0 64)) then true else (!(A9 p0.Phase 0 4096))) then true else (!(Ah p0.Noise 0 1048576))) then (none) else (some 0)
def Bh (p0:Int):Int:=(A8d .i64 p0 65535)
def Dn (p1:(List pulse_Sample)) (p2:Int) (k1:(Int->Int->Int->Int->Option (Int×Int×Int))) (a4:Int) (a5:Int) (a6:Int) (a2:Int):Option (Int×Int×Int):=bif (decide (a2<(p1.length:Int))) then ((Ax p1 a2).bind λa3=>(ck (a3.H+p2)).bind λa0=>(ck (a3.V+p2)).bind λa1=>(ck ((if a0>0 then a0 else 0)*(if a0>0 then a0 else 0))).bind λa7=>(ck ((if a1>0 then a1 else 0)*(if a1>0 then a1 else 0))).bind λa8=>(ck ((if a0>0 then a0 else 0)*(if a1>0 then a1 else 0))).bind λa9=>(ck (a4+a7)).bind λaA=>(ck (a5+a8)).bind λaB=>(ck (a6+a9)).bind λaC=>(ck (a2+1)).bind λaD=>k1 aA aB aC aD) else (some (a4,a5,a6))
def Do (p1:(List pulse_Sample)) (p2:Int):Nat->Int->Int->Int->Int->Option (Int×Int×Int)
  | 0,_,_,_,_=>none
  | n+1,a0,a1,a2,a3=>Dn p1 p2 (Do p1 p2 n) a0 a1 a2 a3
def Ji (F:Nat) (p0:(Int×Int×Int)) (p1:(List pulse_Sample)) (p2:Int):Option (Int×Int×Int):=Do p1 p2 F p0.1 p0.2.1 p0.2.2 0
def Gm (F:Nat) (p0:Int) (p1:Int):Option Int:=(Pd p0 p1).bind λx1=>(ck (x1*p1)).bind λx2=>bif (decide (x2>p0)) then ((ck (x1-1)).bind λx3=>some x3) else (some x1)
def Kf (F:Nat) (p0:Int) (p1:Int):Option Int:=(Gm F (IntKind.i64.wrap (0-p0)) p1).bind λy1=>some (IntKind.i64.wrap (0-y1))
def Cn {σ:Type} (a1:Int) (k1:(Int->σ->Option (σ×Bool))) (a0:σ):Option (σ×Bool):=(ck (a1+1)).bind λa2=>k1 a2 a0
def Bl {σ:Type} (body:(σ->(Int×Int)->Option (σ×Bool))) (c0_:(List pulse_Sample)) (a1:Int) (a2:σ) (k1:(Int->σ->Option (σ×Bool))) (a3:pulse_Sample) (a5:Int):Option (σ×Bool):=(Ax c0_ a1).bind λa4=>(ck (a3.P-a4.P)).bind λa6=>(body a2 (a5,(Bh a6))).bind λa0=>bif a0.2 then (Cn a1 k1 a0.1) else (some (a0.1,false))
def C7 {σ:Type} (body:(σ->(Int×Int)->Option (σ×Bool))) (c0_:(List pulse_Sample)) (c1_:pulse_Train) (l4:(List pulse_Sample)) (k1:(Int->σ->Option (σ×Bool))) (a0:Int) (a1:σ):Option (σ×Bool):=bif (decide (a0<(l4.length:Int))) then ((Ax l4 a0).bind λa2=>bif (c1_.Kind==2) then ((ck (a0+1)).bind λa3=>(Pd (c0_.length:Int) 2).bind λa4=>bif (a3==a4) then (Cn a0 k1 a1) else ((Pd (c0_.length:Int) 2).bind λa5=>bif (decide (a0>=a5)) then (Bl body c0_ a0 a1 k1 a2 1) else (Bl body c0_ a0 a1 k1 a2 0))) else (bif (c1_.Kind==3) then ((Ht a0 2).bind λa6=>Bl body c0_ a0 a1 k1 a2 a6) else (Bl body c0_ a0 a1 k1 a2 0))) else (some (a1,true))
def Ba {σ:Type} (body:(σ->(Int×Int)->Option (σ×Bool))) (c0_:(List pulse_Sample)) (c1_:pulse_Train) (l4:(List pulse_Sample)):Nat->Int->σ->Option (σ×Bool)
  | 0,_,_=>none
  | n+1,a1,a0=>C7 body c0_ c1_ l4 (Ba body c0_ c1_ l4 n) a1 a0
def Fe {σ:Type} (F:Nat) (c0_:(List pulse_Sample)) (c1_:pulse_Train) (body:σ->(Int×Int)->Option (σ×Bool)) (s_:σ):Option (σ×Bool):=(Ud c0_ 1 (c0_.length:Int)).bind λl4=>Ba body c0_ c1_ l4 F 0 s_
def Nz (p0:pulse_Train) (p1:(List pulse_Sample)):Unit:=()
def Ll (p0:(List Int)):Unit:=()
def Lc (p0:(List Int)) (a0:Int) (a1:Int) (a2:Int):Option pulse_arc:=some (pulse_arc.mk a0 a1 a2 (p0.length:Int))
def G1 (p0:(List Int)) (a1:Int) (a8:Int) (k3:(Int->Int->Option pulse_arc)) (a2:Int) (a0:Int):Option pulse_arc:=bif (decide (a0<(p0.length:Int))) then ((Ax p0 a0).bind λa3=>(ck (a3-a1)).bind λa4=>(ck (a1+(Bh a4))).bind λa5=>(ck (a2+a5)).bind λa6=>(ck (a0+1)).bind λa7=>k3 a6 a7) else (Lc p0 a1 a8 a2)
def G3 (p0:(List Int)) (a0:Int) (a1:Int):Nat->Int->Int->Option pulse_arc
  | 0,_,_=>none
  | n+1,a2,a3=>G1 p0 a0 a1 (G3 p0 a0 a1 n) a2 a3
def Nf (F:Nat) (p0:(List Int)) (a0:Int) (a1:Int):Option pulse_arc:=G3 p0 a0 a1 F 0 0
def Jj (a0:Int) (k4:(Int->Int->Int->Option pulse_arc)) (a1:Int) (a2:Int):Option pulse_arc:=(ck (a0+1)).bind λa3=>k4 a1 a2 a3
def G2 (F:Nat) (p0:(List Int)) (a1:(List Int)) (k4:(Int->Int->Int->Option pulse_arc)) (a4:Int) (a2:Int) (a0:Int):Option pulse_arc:=bif (decide (a0<(a1.length:Int))) then ((Ax a1 a0).bind λa3=>(ck (a0+(a1.length:Int))).bind λa7=>(ck (a7-1)).bind λa8=>(Ht a8 (a1.length:Int)).bind λa9=>(Ax a1 a9).bind λa6=>(ck (a6-a3)).bind λa5=>bif (decide ((Bh a5)<a2)) then (Jj a0 k4 a3 (Bh a5)) else (Jj a0 k4 a4 a2)) else (Nf F p0 a4 a2)
def Ex (F:Nat) (p0:(List Int)) (a0:(List Int)):Nat->Int->Int->Int->Option pulse_arc
  | 0,_,_,_=>none
  | n+1,a1,a2,a3=>G2 F p0 a0 (Ex F p0 a0 n) a1 a2 a3
def Hc (F:Nat) (p0:(List Int)):Option pulse_arc:=(Lf F p0).bind λa0=>(Km F a0).bind λa1=>Ex F p0 a1 F 0 65536 0
def Br (F:Nat) (p0:pulse_arc) (p1:Int):Option Bool:=(gd (((p0.count==0)==false&&true)) (ck (4*p1)) 0).bind λx2=>(gd (((p0.count==0)==false&&true)) (ck (p0.width+x2)) 0).bind λx3=>some (bif (p0.count==0) then true else (decide (x3<32768)))
def D2 (F:Nat) (p0:pulse_arc) (p1:Int):Option api_Span:=bif (p0.count==0) then (some (api_Span.mk 0 0)) else ((ck (p0.sum-p1)).bind λx3=>(Gm F x3 p0.count).bind λy4=>(ck (p0.sum+p1)).bind λx5=>(Kf F x5 p0.count).bind λy6=>(ck (y4+32768)).bind λx7=>(ck ((Bh x7)-32768)).bind λx8=>(ck (x8+y6)).bind λx9=>(ck (x9-y4)).bind λa0=>some (api_Span.mk x8 a0))
def Gz (F:Nat) (p0:Int) (p1:Int) (p3:Int):Option Int:=bif (p1==0) then (some p3) else ((ck (1000*p0)).bind λx1=>(ck (x1*p0)).bind λx2=>(Gm F x2 p1).bind λy3=>some (if y3<1000 then y3 else 1000))
def H0 (F:Nat) (p0:Int) (p1:Int) (p3:Int):Option Int:=bif (p1==0) then (some p3) else ((ck (1000*p0)).bind λx1=>(ck (x1*p0)).bind λx2=>(Kf F x2 p1).bind λy3=>some (if y3<1000 then y3 else 1000))
def Bb (s_r:((List Int)×(List Int)×Nat)) (x_:(Int×Int)):Option (((List Int)×(List Int)×Nat)×Bool):=bif (x_.1==0) then ((apd 8 s_r.1 ([x_.2])).bind λa0=>some ((a0,s_r.2.1,0),true)) else (bif (x_.1==1) then ((apd 8 s_r.2.1 ([x_.2])).bind λa1=>some ((s_r.1,a1,0),true)) else (none))
def Nh (tg_:Nat):Code:=.ret
def Le (a7:Int) (a8:Int) (a0:Int) (a1:Int) (aA:Int) (aB:Int) (a2:Int) (a9:api_Span) (a3:Int) (a4:Int) (a5:Int) (a6:Int):Option api_Echo:=some (api_Echo.mk 3 (api_Span.mk a7 a8) ((api_Span.mk a3 a4),(api_Span.mk a5 a6)) a2 (api_Span.mk (if a0<1000000 then a0 else 1000000) (if a1<1000000 then a1 else 1000000)) (api_Span.mk aA aB) a9)
def Jl (F:Nat) (a1:Int) (a2:Int) (a3:Int) (a4:Int) (a5:Int) (a6:Int) (a7:Int) (k6:(Int->Int->Int->Int->Int->Option api_Echo)) (a8:Int):Option api_Echo:=(D2 F (pulse_arc.mk a1 a2 a3 a4) a8).bind λa0=>(ck (a7+1)).bind λa9=>k6 a0.Lo a0.Hi a5 a6 a9
def Jm (F:Nat) (a1:Int) (a2:Int) (a3:Int) (a4:Int) (a5:Int) (a6:Int) (a7:Int) (k6:(Int->Int->Int->Int->Int->Option api_Echo)) (a8:Int):Option api_Echo:=(D2 F (pulse_arc.mk a1 a2 a3 a4) a8).bind λa0=>(ck (a7+1)).bind λa9=>k6 a5 a6 a0.Lo a0.Hi a9
def Dp (F:Nat) (p0:pulse_Train) (p1:pulse_Receiver) (aI:Int) (aJ:Int) (aK:Int) (aM:Int) (aN:Int) (aO:Int) (a7:Int) (a8:Int) (a9:Int) (a1:Int) (aA:Int) (aB:Int) (aC:Int) (a2:Int) (aF:Int) (aL:api_Span) (k6:(Int->Int->Int->Int->Int->Option api_Echo)) (a3:Int) (a4:Int) (a5:Int) (a6:Int) (a0:Int):Option api_Echo:=bif (decide (a0<2)) then (bif (a0==0) then ((ck (2*p1.Phase)).bind λaD=>bif (p0.Kind==3) then ((ck (aD*a1)).bind λaG=>Jl F a7 a8 a9 a1 a5 a6 a0 k6 aG) else (Jl F a7 a8 a9 a1 a5 a6 a0 k6 aD)) else (bif (a0==1) then ((ck (2*p1.Phase)).bind λaE=>bif (p0.Kind==3) then ((ck (aE*a2)).bind λaH=>Jm F aA aB aC a2 a3 a4 a0 k6 aH) else (Jm F aA aB aC a2 a3 a4 a0 k6 aE)) else (none))) else (Le aI aJ aK aM aN aO aF aL a3 a4 a5 a6)
def C9 (F:Nat) (p0:pulse_Train) (p1:pulse_Receiver) (a9:Int) (aA:Int) (aB:Int) (aD:Int) (aE:Int) (aF:Int) (a0:Int) (a1:Int) (a2:Int) (a3:Int) (a4:Int) (a5:Int) (a6:Int) (a7:Int) (a8:Int) (aC:api_Span):Nat->Int->Int->Int->Int->Int->Option api_Echo
  | 0,_,_,_,_,_=>none
  | n+1,aG,aH,aI,aJ,aK=>Dp F p0 p1 a9 aA aB aD aE aF a0 a1 a2 a3 a4 a5 a6 a7 a8 aC (C9 F p0 p1 a9 aA aB aD aE aF a0 a1 a2 a3 a4 a5 a6 a7 a8 aC n) aG aH aI aJ aK
def Gy (F:Nat) (p0:pulse_Train) (p1:pulse_Receiver) (a3:Int) (a4:Int) (a0:Int) (a1:Int) (a6:Int) (a7:Int) (a5:pulse_arc) (a9:Int) (aA:Int) (aB:Int) (aC:Int) (aD:Int) (aE:Int) (aF:Int) (aG:Int) (a2:Int) (a8:Bool):Option api_Echo:=bif (!a8) then (some (api_Echo.mk 2 (api_Span.mk a3 a4) ((api_Span.mk 0 0),(api_Span.mk 0 0)) a2 (api_Span.mk (if a0<1000000 then a0 else 1000000) (if a1<1000000 then a1 else 1000000)) (api_Span.mk a6 a7) (api_Span.mk 0 0))) else ((ck (2*p1.Phase)).bind λaH=>(ck (aH*a5.count)).bind λaI=>(D2 F a5 aI).bind λaJ=>C9 F p0 p1 a3 a4 a0 a1 a6 a7 a9 aA aB aC aD aE aF aG a2 aJ F 0 0 0 0 0)
def G9 (F:Nat) (p1:pulse_Receiver) (a6:Int) (a7:Int) (a8:Int) (a9:Int) (a1:Int) (aA:Int) (a2:Bool) (k9:(Int->Int->Int->Int->Int->Int->Int->Int->Int->Int->Bool->Option api_Echo)) (a3:Int) (a0:Int) (a4:Int) (a5:Int):Option api_Echo:=bif a2 then ((Br F (pulse_arc.mk a3 a0 a4 a5) p1.Phase).bind λaD=>(ck (aA+1)).bind λaB=>k9 a3 a0 a4 a5 a6 a7 a8 a9 (if a0>a1 then a0 else a1) aB (bif a2 then aD else false)) else ((ck (aA+1)).bind λaC=>k9 a3 a0 a4 a5 a6 a7 a8 a9 (if a0>a1 then a0 else a1) aC (bif a2 then false else false))
def Ga (F:Nat) (p1:pulse_Receiver) (a6:Int) (a7:Int) (a8:Int) (a9:Int) (a1:Int) (aA:Int) (a2:Bool) (k9:(Int->Int->Int->Int->Int->Int->Int->Int->Int->Int->Bool->Option api_Echo)) (a3:Int) (a0:Int) (a4:Int) (a5:Int):Option api_Echo:=bif a2 then ((Br F (pulse_arc.mk a3 a0 a4 a5) p1.Phase).bind λaD=>(ck (aA+1)).bind λaB=>k9 a6 a7 a8 a9 a3 a0 a4 a5 (if a0>a1 then a0 else a1) aB (bif a2 then aD else false)) else ((ck (aA+1)).bind λaC=>k9 a6 a7 a8 a9 a3 a0 a4 a5 (if a0>a1 then a0 else a1) aC (bif a2 then false else false))
def Dq (F:Nat) (p0:pulse_Train) (p1:pulse_Receiver) (aE:Int) (aF:Int) (aG:Int) (aI:Int) (aJ:Int) (aK:Int) (a3:(((List Int)×(List Int)×Nat)×Bool)) (aH:pulse_arc) (k9:(Int->Int->Int->Int->Int->Int->Int->Int->Int->Int->Bool->Option api_Echo)) (a4:Int) (a5:Int) (a6:Int) (a7:Int) (a8:Int) (a9:Int) (aA:Int) (aB:Int) (a2:Int) (a0:Int) (a1:Bool):Option api_Echo:=bif (decide (a0<2)) then (bif (a0==0) then (bif (decide ((a3.1.1.length:Int)>0)) then ((Hc F a3.1.1).bind λaC=>G9 F p1 a8 a9 aA aB a2 a0 a1 k9 aC.base aC.width aC.sum aC.count) else (G9 F p1 a8 a9 aA aB a2 a0 a1 k9 a4 a5 a6 a7)) else (bif (a0==1) then (bif (decide ((a3.1.2.1.length:Int)>0)) then ((Hc F a3.1.2.1).bind λaD=>Ga F p1 a4 a5 a6 a7 a2 a0 a1 k9 aD.base aD.width aD.sum aD.count) else (Ga F p1 a4 a5 a6 a7 a2 a0 a1 k9 a8 a9 aA aB)) else (none))) else (Gy F p0 p1 aE aF aG aI aJ aK aH a4 a5 a6 a7 a8 a9 aA aB a2 a1)
def Ca (F:Nat) (p0:pulse_Train) (p1:pulse_Receiver) (a1:Int) (a2:Int) (a3:Int) (a5:Int) (a6:Int) (a7:Int) (a0:(((List Int)×(List Int)×Nat)×Bool)) (a4:pulse_arc):Nat->Int->Int->Int->Int->Int->Int->Int->Int->Int->Int->Bool->Option api_Echo
  | 0,_,_,_,_,_,_,_,_,_,_,_=>none
  | n+1,a9,aA,aB,aC,aD,aE,aF,aG,aH,aI,a8=>Dq F p0 p1 a1 a2 a3 a5 a6 a7 a0 a4 (Ca F p0 p1 a1 a2 a3 a5 a6 a7 a0 a4 n) a9 aA aB aC aD aE aF aG aH aI a8
def Gx (F:Nat) (p0:pulse_Train) (p1:pulse_Receiver) (a3:Int) (a4:Int) (a5:Int) (a7:Int) (a8:Int) (a9:Int) (a2:(((List Int)×(List Int)×Nat)×Bool)) (a1:(List Int)):Option api_Echo:=(Hc F a1).bind λa0=>(Br F a0 p1.Phase).bind λa6=>Ca F p0 p1 a3 a4 a5 a7 a8 a9 a2 a0 F 0 0 0 0 0 0 0 0 0 0 a6
def F6 (F:Nat) (p0:pulse_Train) (p1:pulse_Receiver) (p2:(List pulse_Sample)) (a8:Int) (a9:Int) (aA:Int) (aB:Int) (aC:Int) (aD:Int) (a5:(((List Int)×(List Int)×Nat)×Bool)) (a3:(Int->(List Int)->Option api_Echo)) (a0:Int) (a1:(List Int)):Option api_Echo:=bif (decide (a0<(p2.length:Int))) then ((Ax p2 a0).bind λa2=>(ck (a2.Q-a2.P)).bind λa6=>(apd 8 a1 ([(Bh a6)])).bind λa4=>(ck (a0+1)).bind λa7=>a3 a7 a4) else (Gx F p0 p1 a8 a9 aA aB aC aD a5 a1)
def F7 (F:Nat) (p0:pulse_Train) (p1:pulse_Receiver) (p2:(List pulse_Sample)) (a1:Int) (a2:Int) (a3:Int) (a4:Int) (a5:Int) (a6:Int) (a0:(((List Int)×(List Int)×Nat)×Bool)):Nat->Int->(List Int)->Option api_Echo
  | 0,_,_=>none
  | n+1,a8,a7=>F6 F p0 p1 p2 a1 a2 a3 a4 a5 a6 a0 (F7 F p0 p1 p2 a1 a2 a3 a4 a5 a6 a0 n) a8 a7
def Jk (F:Nat) (p0:pulse_Train) (p1:pulse_Receiver) (p2:(List pulse_Sample)) (y9:(Int×Int×Int)) (a4:(Int×Int×Int)) (a1:Int) (a0:Int) (a2:Int) (a3:Int):Option api_Echo:=bif ((((a1:Int)==0)&&(((a0:Int)==a0)&&true))&&((((a2:Int)==a2)&&(((a3:Int)==a3)&&true))&&true)) then (some (api_Echo.mk 1 (api_Span.mk a1 a0) ((api_Span.mk 0 0),(api_Span.mk 0 0)) 0 (api_Span.mk 0 0) (api_Span.mk 0 0) (api_Span.mk 0 0))) else ((ck (1000*a2)).bind λa6=>(Pd a6 a0).bind λa7=>(ck (1000*a3)).bind λa8=>(Kf F a8 a1).bind λaB=>(ck (a4.1*a4.2.1)).bind λa9=>(ck (y9.1*y9.2.1)).bind λaA=>(Gz F y9.2.2 a9 0).bind λaC=>(H0 F a4.2.2 aA 1000).bind λaD=>(Fe F p2 p0 (Bb) (([]:List Int),([]:List Int),0)).bind λa5=>bif a5.2 then (F7 F p0 p1 p2 a1 a0 a7 aB aC aD a5 F 0 ([])) else (none))
def D5 (F:Nat) (p0:pulse_Train) (p1:pulse_Receiver) (p2:(List pulse_Sample)) (y9:(Int×Int×Int)) (a1:(Int×Int×Int)) (a2:(Int->Int->Int->Int->Int->Option api_Echo)) (a3:Int) (a4:Int) (a5:Int) (a6:Int) (a0:Int):Option api_Echo:=bif (decide (a0<2)) then (bif (a0==0) then ((Gm F y9.1 (p2.length:Int)).bind λaD=>(ck (aD-p1.Noise.Hi)).bind λa7=>(Kf F a1.1 (p2.length:Int)).bind λaE=>(ck (aE-p1.Noise.Lo)).bind λa8=>(ck (a0+1)).bind λaB=>a2 (if a7>0 then a7 else 0) (if a8>0 then a8 else 0) a5 a6 aB) else (bif (a0==1) then ((Gm F y9.2.1 (p2.length:Int)).bind λaF=>(ck (aF-p1.Noise.Hi)).bind λa9=>(Kf F a1.2.1 (p2.length:Int)).bind λaG=>(ck (aG-p1.Noise.Lo)).bind λaA=>(ck (a0+1)).bind λaC=>a2 a3 a4 (if a9>0 then a9 else 0) (if aA>0 then aA else 0) aC) else (bif (a0==2) then (none) else (none)))) else (Jk F p0 p1 p2 y9 a1 a3 a4 a5 a6)
def C4 (F:Nat) (p0:pulse_Train) (p1:pulse_Receiver) (p2:(List pulse_Sample)) (y9:(Int×Int×Int)) (a0:(Int×Int×Int)):Nat->Int->Int->Int->Int->Int->Option api_Echo
  | 0,_,_,_,_,_=>none
  | n+1,a1,a2,a3,a4,a5=>D5 F p0 p1 p2 y9 a0 (C4 F p0 p1 p2 y9 a0 n) a1 a2 a3 a4 a5
def Mm (F:Nat) (p0:pulse_Train) (p1:pulse_Receiver) (p2:(List pulse_Sample)):Option api_Echo:=(Ji F (0,0,0) p2 (IntKind.i64.wrap (0-p1.Level))).bind λy9=>(Ji F (0,0,0) p2 p1.Level).bind λa0=>C4 F p0 p1 p2 y9 a0 F 0 0 0 0 0
def Kd (F:Nat) (p0:pulse_Train) (p1:pulse_Receiver) (p2:(List pulse_Sample)):Option (api_Echo×Int):=(Mm F p0 p1 p2).bind λa0=>some ((api_Echo.mk a0.Kind a0.Power ((api_Span.mk a0.Steps.1.Lo a0.Steps.1.Hi),(api_Span.mk a0.Steps.2.Lo a0.Steps.2.Hi)) a0.Spread a0.Ratio a0.Match a0.Turn),0)
def Gk (F:Nat) (p0:pulse_Train) (p1:pulse_Receiver) (p2:(List pulse_Sample)) (k2:(Int->Option (api_Echo×Int))) (a1:Int):Option (api_Echo×Int):=bif (decide (a1<(p2.length:Int))) then ((Ax p2 a1).bind λa0=>bif (bif (bif (bif (!(A9 (if a0.V<a0.H then a0.V else a0.H) 0 1023)) then true else (!(A9 (if a0.V>a0.H then a0.V else a0.H) 0 1023))) then true else ((Bh a0.P) != a0.P)) then true else ((Bh a0.Q) != a0.Q)) then (none) else ((ck (a1+1)).bind λa2=>k2 a2)) else (Kd F p0 p1 p2)
def Gl (F:Nat) (p0:pulse_Train) (p1:pulse_Receiver) (p2:(List pulse_Sample)):Nat->Int->Option (api_Echo×Int)
  | 0,_=>none
  | n+1,a0=>Gk F p0 p1 p2 (Gl F p0 p1 p2 n) a0
def Nd (F:Nat) (p0:pulse_Train) (p1:pulse_Receiver) (p2:(List pulse_Sample)):Option (api_Echo×Int):=(Da F p0).bind λy7=>bif (y7 != 0) then (none) else ((Fa F p1).bind λy8=>bif (y8 != 0) then (none) else (bif ((p2.length:Int) != p0.Count) then (none) else (Gl F p0 p1 p2 F 0)))
def Fq (F:Nat) (p0:top_Unfolded):Option Int:=(ck p0.Slip).bind λa0=>(Ht a0 17).bind λa1=>(ck (25*a1)).bind λa2=>(ck (1+a2)).bind λa3=>some a3
def Mn (F:Nat) (p0:Int) (p1:Int):Option Int:=(Pd p0 p1).bind λx1=>(Ht p0 p1).bind λx2=>bif (decide (x2<0)) then ((ck (x1-1)).bind λx3=>some x3) else (some x1)
def Mc (a0:(List pulse_Sample)):Option (List pulse_Sample):=some a0
def Kg (a1:Int) (k2:((List pulse_Sample)->Int->Int->Option (List pulse_Sample))) (a0:(List pulse_Sample)) (a2:Int):Option (List pulse_Sample):=(ck (a1+1)).bind λa3=>k2 a0 a2 a3
def J0 (p0:pulse_Train) (p3:Int) (a5:(List pulse_Sample)) (a2:Int) (a0:Int) (k2:((List pulse_Sample)->Int->Int->Option (List pulse_Sample))) (a6:Int):Option (List pulse_Sample):=(Ht a6 65536).bind λa7=>(ck (a7+65536)).bind λa8=>(Ht a8 65536).bind λa3=>(apd 32 a5 ([(pulse_Sample.mk p3 a3 p3 a3)])).bind λa1=>(gd (((p0.Kind==2)==true&&true)) (Pd p0.Count 2) 0).bind λa4=>(gd (((p0.Kind==3)==true&&((bif (p0.Kind==2) then (decide (a0>=a4)) else false)==false&&true))) (Ht a0 2) 0).bind λa9=>bif (bif (bif (p0.Kind==2) then (decide (a0>=a4)) else false) then true else (bif (p0.Kind==3) then (a9==1) else false)) then ((ck (a2+p0.Second)).bind λaA=>Kg a0 k2 a1 aA) else ((ck (a2+p0.First)).bind λaB=>Kg a0 k2 a1 aB)
def Gr (F:Nat) (p0:pulse_Train) (p1:Int) (p2:Int) (p3:Int) (p4:Int) (p5:(List Int)) (p6:Int) (k2:((List pulse_Sample)->Int->Int->Option (List pulse_Sample))) (a1:(List pulse_Sample)) (a2:Int) (a0:Int):Option (List pulse_Sample):=bif (decide (a0<p0.Count)) then ((ck (p1*65536)).bind λa5=>(ck (a5*a2)).bind λa6=>(ck (p2*500)).bind λa7=>(ck (a7*p0.Lambda)).bind λa8=>(Mn F a6 a8).bind λa3=>bif (decide ((p5.length:Int)>0)) then ((ck (p6+a0)).bind λa9=>(Ht a9 (p5.length:Int)).bind λaA=>(Ax p5 aA).bind λa4=>(ck a4).bind λaB=>(ck (2*p4)).bind λaC=>(ck (aC-1)).bind λaD=>(Ht aB aD).bind λaE=>(ck (p4-1)).bind λaF=>(ck (aE-aF)).bind λaG=>(ck (a3+aG)).bind λaH=>J0 p0 p3 a1 a2 a0 k2 aH) else (J0 p0 p3 a1 a2 a0 k2 a3)) else (Mc a1)
def Fl (F:Nat) (p0:pulse_Train) (p1:Int) (p2:Int) (p3:Int) (p4:Int) (p5:(List Int)) (p6:Int):Nat->(List pulse_Sample)->Int->Int->Option (List pulse_Sample)
  | 0,_,_,_=>none
  | n+1,a0,a1,a2=>Gr F p0 p1 p2 p3 p4 p5 p6 (Fl F p0 p1 p2 p3 p4 p5 p6 n) a0 a1 a2
def Q3 (F:Nat) (p0:pulse_Train) (p1:Int) (p2:Int) (p3:Int) (p4:Int) (p5:(List Int)) (p6:Int):Option (List pulse_Sample):=Fl F p0 p1 p2 p3 p4 p5 p6 F ([]) 0 0
def Lh (p1:Int) (a0:(List (List api_Echo))):Option (api_Sweep×Bool):=some ((api_Sweep.mk (api_Site.mk (⟨#[115]⟩:ByteArray) 0 0 0 p1 1 500 0) 0 0 a0),true)
def Dt (F:Nat) (p0:top_Blown) (a3:pulse_Train) (a4:(List (List api_Echo))) (a2:Int) (k2:((List (List api_Echo))->Int->Option (api_Sweep×Bool))) (a1:(Int×Int×Int×Int)) (a6:Int):Option (api_Sweep×Bool):=(ck p0.U).bind λa7=>(ck (a7*a1.1)).bind λa8=>(ck p0.V).bind λa9=>(ck (a9*a1.2.1)).bind λaA=>(ck (a8+aA)).bind λaB=>(ck (16*a1.2.2.1)).bind λaC=>(ck (5*a2)).bind λaD=>(Fq F p0.Air).bind λaF=>(Fq F p0.Air).bind λaG=>(Q3 F a3 aB aC a6 aG p0.Air.Slips aD).bind λaH=>(Nd F a3 (pulse_Receiver.mk 0 aF (api_Span.mk 0 0)) aH).bind λa0=>bif (a0.2 != 0) then (none) else ((apd 24 a4 ([[(api_Echo.mk a0.1.Kind (api_Span.mk a0.1.Power.Lo a0.1.Power.Hi) ((api_Span.mk a0.1.Steps.1.Lo a0.1.Steps.1.Hi),(api_Span.mk a0.1.Steps.2.Lo a0.1.Steps.2.Hi)) a0.1.Spread (api_Span.mk a0.1.Ratio.Lo a0.1.Ratio.Hi) (api_Span.mk a0.1.Match.Lo a0.1.Match.Hi) (api_Span.mk a0.1.Turn.Lo a0.1.Turn.Hi))]])).bind λa5=>(ck (a2+1)).bind λaE=>k2 a5 aE)
def Dr (F:Nat) (p0:top_Blown) (p1:Int) (a3:pulse_Train) (k2:((List (List api_Echo))->Int->Option (api_Sweep×Bool))) (a1:(List (List api_Echo))) (a0:Int):Option (api_Sweep×Bool):=(ck (4*p1)).bind λa5=>bif (decide (a0<a5)) then ((ck (2*p1)).bind λa6=>(ck (2*a0)).bind λa7=>(ck (a7+1)).bind λa8=>(beam_Direction F a6 a8).bind λa2=>bif (a2.2.2.2 != 0) then (none) else (bif (decide ((p0.Air.Loud.length:Int)>0)) then ((Ht a0 (p0.Air.Loud.length:Int)).bind λa9=>(Ax p0.Air.Loud a9).bind λa4=>(ck a4).bind λaA=>(Ht aA 20).bind λaB=>Dt F p0 a3 a1 a0 k2 a2 aB) else (Dt F p0 a3 a1 a0 k2 a2 9))) else (Lh p1 a1)
def Cj (F:Nat) (p0:top_Blown) (p1:Int) (a0:pulse_Train):Nat->(List (List api_Echo))->Int->Option (api_Sweep×Bool)
  | 0,_,_=>none
  | n+1,a1,a2=>Dr F p0 p1 a0 (Cj F p0 p1 a0 n) a1 a2
def Jq (F:Nat) (p0:top_Blown) (p1:Int):Option (api_Sweep×Bool):=(Du F p0.Air).bind λa0=>Cj F p0 p1 a0 F ([]) 0
def R1 (F:Nat) (p0:ByteArray):Option Bool:=(gd (((bif (!(sEq p0 (⟨#[]⟩:ByteArray))) then (decide (((p0.size:Nat):Int)<=12)) else false)==true&&true)) (A6f p0 (0:Int)) default).bind λu1=>(gd (((bif (bif (!(sEq p0 (⟨#[]⟩:ByteArray))) then (decide (((p0.size:Nat):Int)<=12)) else false) then (decide (u1>=97)) else false)==true&&true)) (A6f p0 (0:Int)) default).bind λu2=>some (bif (bif (bif (bif (!(sEq p0 (⟨#[]⟩:ByteArray))) then (decide (((p0.size:Nat):Int)<=12)) else false) then (decide (u1>=97)) else false) then (decide (u2<=122)) else false) then (!(Jp p0)) else false)
def Ez (c4:Bool):Option Int:=bif c4 then (some 3) else (some 0)
def Ey (p0:api_Site) (c3:Bool):Option Int:=bif c3 then (some 3) else (bif (!(An p0.Rose 1 90)) then (Ez (!(An p0.Rose 1 90))) else (bif (!(An p0.Gates 1 200)) then (Ez (!(An p0.Gates 1 200))) else (bif (!(An p0.Step 50 2000)) then (Ez (!(An p0.Step 50 2000))) else (Ez (!(An p0.Width 0 8))))))
def El (F:Nat) (p0:api_Site):Option Int:=(R1 F p0.Name).bind λy2=>bif (!y2) then (some 10) else (bif (!(An p0.X (-1048576) 1048576)) then (Ey p0 (!(An p0.X (-1048576) 1048576))) else (bif (!(An p0.Y (-1048576) 1048576)) then (Ey p0 (!(An p0.Y (-1048576) 1048576))) else (Ey p0 (!(An p0.Z 0 20000)))))
def Lv:Option Bool:=some true
def Db (p0:(List api_Span)) (k2:(Int->Option Bool)) (a1:Int):Option Bool:=bif (decide (a1<(p0.length:Int))) then ((Ax p0 a1).bind λa0=>(gd (((!(A9 a0.Lo (-32768) 32767))==false&&true)) (ck (a0.Lo+65536)) 0).bind λa2=>(gd (((!(A9 a0.Lo (-32768) 32767))==false&&true)) (ck (a2-1)) 0).bind λa3=>bif (bif (!(A9 a0.Lo (-32768) 32767)) then true else (!(A9 a0.Hi a0.Lo a3))) then (some false) else ((ck (a1+1)).bind λa4=>k2 a4)) else (Lv)
def Ea (p0:(List api_Span)):Nat->Int->Option Bool
  | 0,_=>none
  | n+1,a0=>Db p0 (Ea p0 n) a0
def Ma (F:Nat) (p0:(List api_Span)):Option Bool:=Ea p0 F 0
def Cm (c7:Bool):Option Int:=bif (!c7) then (some 3) else (some 0)
def G0 (F:Nat) (p0:api_Echo) (c9:Bool):Option Int:=bif c9 then (bif (p0.Kind==2) then (Cm (bif (bif (bif (bif (bif (bif (Ah p0.Power 0 1073741824) then (decide (p0.Power.Lo>0)) else false) then (Ah p0.Ratio 0 1000000) else false) then (Ah p0.Match 0 1000) else false) then (A9 p0.Spread 0 65535) else false) then ((((p0.Steps.1.Lo:Int)==0)&&(((p0.Steps.1.Hi:Int)==0)&&true))&&((((p0.Steps.2.Lo:Int)==0)&&(((p0.Steps.2.Hi:Int)==0)&&true))&&true)) else false) then (((p0.Turn.Lo:Int)==0)&&(((p0.Turn.Hi:Int)==0)&&true)) else false)) else (bif (bif (bif (bif (bif (Ah p0.Power 0 1073741824) then (decide (p0.Power.Lo>0)) else false) then (Ah p0.Ratio 0 1000000) else false) then (Ah p0.Match 0 1000) else false) then (A9 p0.Spread 0 65535) else false) then ((Ma F ([(api_Span.mk p0.Steps.1.Lo p0.Steps.1.Hi),(api_Span.mk p0.Steps.2.Lo p0.Steps.2.Hi),p0.Turn])).bind λa0=>Cm a0) else (Cm false))) else (some 2)
def Hr (F:Nat) (p0:api_Echo):Option Int:=bif (p0.Kind==1) then (Cm (bif (Ah p0.Power 0 1073741824) then (((p0.Kind:Int)==1)&&((((p0.Power.Lo:Int)==0)&&(((p0.Power.Hi:Int)==p0.Power.Hi)&&true))&&(((((p0.Steps.1.Lo:Int)==0)&&(((p0.Steps.1.Hi:Int)==0)&&true))&&((((p0.Steps.2.Lo:Int)==0)&&(((p0.Steps.2.Hi:Int)==0)&&true))&&true))&&(((p0.Spread:Int)==0)&&((((p0.Ratio.Lo:Int)==0)&&(((p0.Ratio.Hi:Int)==0)&&true))&&((((p0.Match.Lo:Int)==0)&&(((p0.Match.Hi:Int)==0)&&true))&&((((p0.Turn.Lo:Int)==0)&&(((p0.Turn.Hi:Int)==0)&&true))&&true))))))) else false)) else (bif (p0.Kind==2) then (G0 F p0 (p0.Kind==2)) else (G0 F p0 (p0.Kind==3)))
def K3:Option Int:=some 0
def Fb (a0:Int) (k3:(Int->Option Int)):Option Int:=(ck (a0+1)).bind λa1=>k3 a1
def Ct (F:Nat) (a4:Int) (k3:(Int->Option Int)) (a2:(List api_Echo)) (k5:(Int->Option Int)) (a1:Int):Option Int:=bif (decide (a1<(a2.length:Int))) then ((Ax a2 a1).bind λa0=>(Hr F (api_Echo.mk a0.Kind a0.Power ((api_Span.mk a0.Steps.1.Lo a0.Steps.1.Hi),(api_Span.mk a0.Steps.2.Lo a0.Steps.2.Hi)) a0.Spread a0.Ratio a0.Match a0.Turn)).bind λa3=>bif (a3 != 0) then (some a3) else ((ck (a1+1)).bind λa5=>k5 a5)) else (Fb a4 k3)
def Cv (F:Nat) (a1:Int) (k3:(Int->Option Int)) (a0:(List api_Echo)):Nat->Int->Option Int
  | 0,_=>none
  | n+1,a2=>Ct F a1 k3 a0 (Cv F a1 k3 a0 n) a2
def Cs (F:Nat) (p0:api_Sweep) (k3:(Int->Option Int)) (a0:Int):Option Int:=bif (decide (a0<(p0.Rays.length:Int))) then ((Ax p0.Rays a0).bind λa1=>Cv F a0 k3 a1 F 0) else (K3)
def Cc (F:Nat) (p0:api_Sweep):Nat->Int->Option Int
  | 0,_=>none
  | n+1,a0=>Cs F p0 (Cc F p0 n) a0
def K2 (F:Nat) (p0:api_Sweep):Option Int:=Cc F p0 F 0
def Cu (F:Nat) (p0:api_Sweep) (k6:(Int->Option Int)) (a0:Int):Option Int:=bif (decide (a0<(p0.Rays.length:Int))) then ((Ax p0.Rays a0).bind λa1=>bif ((a1.length:Int) != p0.Site.Gates) then (some 11) else ((ck (a0+1)).bind λa2=>k6 a2)) else (K2 F p0)
def Cw (F:Nat) (p0:api_Sweep):Nat->Int->Option Int
  | 0,_=>none
  | n+1,a0=>Cu F p0 (Cw F p0 n) a0
def E9 (F:Nat) (p0:api_Sweep):Option Int:=(El F p0.Site).bind λy6=>bif (y6 != 0) then (some y6) else (bif (bif (!(A9 p0.Tilt 0 256)) then true else (!(A9 p0.Time 0 4294967296))) then (some 3) else ((ck (4*p0.Site.Rose)).bind λx7=>bif ((p0.Rays.length:Int) != x7) then (some 11) else (Cw F p0 F 0)))
def Lq (p0:Int):Bool:=bif (decide (p0>=1)) then (decide (p0<=200000)) else false
def Fh (p0:Int) (p1:Int):Int:=bif (bif (bif (bif (decide (p0<0)) then true else (decide (p0>400000))) then true else (decide (p1<1))) then true else (decide (p1>16))) then (3) else (0)
def A6 (p0:api_Span) (p1:api_Span):(api_Span×Bool):=((api_Span.mk (if p1.Lo>p0.Lo then p1.Lo else p0.Lo) (if p1.Hi<p0.Hi then p1.Hi else p0.Hi)),decide ((if p1.Lo>p0.Lo then p1.Lo else p0.Lo)<=(if p1.Hi<p0.Hi then p1.Hi else p0.Hi)))
def Gw (F:Nat) (p0:pulse_Train) (p1:Int):Option (Int×Int):=(Da F p0).bind λy2=>bif (y2 != 0) then (some (0,y2)) else (bif (!(A9 p1 0 1)) then (bif (bif (!(A9 p1 0 1)) then true else (0==0)) then (some (0,2)) else (bif (p1==0) then (some (p0.First,0)) else (bif (p1==1) then (some (p0.Second,0)) else (none)))) else (bif (p1==0) then (bif (bif (!(A9 p1 0 1)) then true else (p0.First==0)) then (some (0,2)) else (some (p0.First,0))) else (bif (p1==1) then (bif (bif (!(A9 p1 0 1)) then true else (p0.Second==0)) then (some (0,2)) else (some (p0.Second,0))) else (none))))
def Hj (F:Nat) (p0:Int) (c0_:pulse_Train) (c1_:Int) (c2_:Int):Option Int:=(ck (500*c0_.Lambda)).bind λx1=>(ck (c1_*65536)).bind λx2=>(ck (p0+x2)).bind λx3=>(ck (x1*x3)).bind λx4=>(ck (65536*c2_)).bind λx5=>(Gm F x4 x5).bind λy6=>some y6
def Hk (F:Nat) (p0:Int) (c0_:pulse_Train) (c1_:Int) (c2_:Int):Option Int:=(ck (500*c0_.Lambda)).bind λx1=>(ck (c1_*65536)).bind λx2=>(ck (p0+x2)).bind λx3=>(ck (x1*x3)).bind λx4=>(ck (65536*c2_)).bind λx5=>(Kf F x4 x5).bind λy6=>some y6
def Kt (F:Nat) (p0:pulse_Train) (p1:Int) (p2:api_Span) (p3:Int):Option (api_Span×Int):=(Gw F p0 p1).bind λy5=>bif (y5.2 != 0) then (some ((api_Span.mk 0 0),y5.2)) else (bif (bif (!(Ah p2 (-131072) 131072)) then true else (!(A9 p3 (-64) 64))) then (some ((api_Span.mk 0 0),3)) else ((Hj F p2.Lo p0 p3 y5.1).bind λy8=>(Hk F p2.Hi p0 p3 y5.1).bind λa0=>some ((api_Span.mk y8 a0),0)))
def Cz {σ:Type} (F:Nat) (body:(σ->fold_option->Option (σ×Bool))) (c0_:pulse_Train) (c1_:Int) (c2_:api_Echo) (c3_:Int) (k1:(Int->σ->Option (σ×Bool))) (a0:Int) (a3:σ):Option (σ×Bool):=bif (decide (a0<=64)) then (bif (c1_==0) then ((Kt F c0_ c1_ (api_Span.mk c2_.Steps.1.Lo c2_.Steps.1.Hi) a0).bind λa1=>bif ((A6 (api_Span.mk a1.1.Lo a1.1.Hi) (api_Span.mk (IntKind.i64.wrap (0-c3_)) c3_)).2) then ((body a3 (fold_option.mk a0 (api_Span.mk (((A6 (api_Span.mk a1.1.Lo a1.1.Hi) (api_Span.mk (IntKind.i64.wrap (0-c3_)) c3_)).1).Lo) (((A6 (api_Span.mk a1.1.Lo a1.1.Hi) (api_Span.mk (IntKind.i64.wrap (0-c3_)) c3_)).1).Hi)))).bind λa4=>bif a4.2 then ((ck (a0+1)).bind λa6=>k1 a6 a4.1) else (some (a4.1,false))) else ((ck (a0+1)).bind λa7=>k1 a7 a3)) else (bif (c1_==1) then ((Kt F c0_ c1_ (api_Span.mk c2_.Steps.2.Lo c2_.Steps.2.Hi) a0).bind λa2=>bif ((A6 (api_Span.mk a2.1.Lo a2.1.Hi) (api_Span.mk (IntKind.i64.wrap (0-c3_)) c3_)).2) then ((body a3 (fold_option.mk a0 (api_Span.mk (((A6 (api_Span.mk a2.1.Lo a2.1.Hi) (api_Span.mk (IntKind.i64.wrap (0-c3_)) c3_)).1).Lo) (((A6 (api_Span.mk a2.1.Lo a2.1.Hi) (api_Span.mk (IntKind.i64.wrap (0-c3_)) c3_)).1).Hi)))).bind λa5=>bif a5.2 then ((ck (a0+1)).bind λa8=>k1 a8 a5.1) else (some (a5.1,false))) else ((ck (a0+1)).bind λa9=>k1 a9 a3)) else (none))) else (some (a3,true))
def Dg {σ:Type} (F:Nat) (body:(σ->fold_option->Option (σ×Bool))) (c0_:pulse_Train) (c1_:Int) (c2_:api_Echo) (c3_:Int):Nat->Int->σ->Option (σ×Bool)
  | 0,_,_=>none
  | n+1,a1,a0=>Cz F body c0_ c1_ c2_ c3_ (Dg F body c0_ c1_ c2_ c3_ n) a1 a0
def L8 {σ:Type} (F:Nat) (c0_:pulse_Train) (c1_:Int) (c2_:api_Echo) (c3_:Int) (body:σ->fold_option->Option (σ×Bool)) (s_:σ):Option (σ×Bool):=Dg F body c0_ c1_ c2_ c3_ F (-64) s_
def Sh (p0:pulse_Train) (p1:api_Echo) (p2:Int) (p3:Int):Unit:=()
def Ei (s_r:((List fold_option)×Nat)) (x_:fold_option):Option (((List fold_option)×Nat)×Bool):=(apd 24 s_r.1 ([x_])).bind λa0=>some ((a0,0),true)
def Pr (tg_:Nat):Code:=.ret
def Mz (F:Nat) (p0:pulse_Train) (p1:api_Echo) (p2:Int) (p3:Int):Option ((List fold_option)×Bool):=(L8 F p0 p2 (api_Echo.mk p1.Kind p1.Power ((api_Span.mk p1.Steps.1.Lo p1.Steps.1.Hi),(api_Span.mk p1.Steps.2.Lo p1.Steps.2.Hi)) p1.Spread p1.Ratio p1.Match p1.Turn) p3 (Ei) (([]:List fold_option),0)).bind λa0=>bif a0.2 then ((gd (((decide ((a0.1.1.length:Int)>0))==true&&true)) (Ax a0.1.1 0) default).bind λa1=>(gd (((a1.whole==(-64))==false&&((decide ((a0.1.1.length:Int)>0))==true&&true))) (ck ((a0.1.1.length:Int)-1)) 0).bind λa3=>(gd (((a1.whole==(-64))==false&&((decide ((a0.1.1.length:Int)>0))==true&&true))) (Ax a0.1.1 a3) default).bind λa2=>bif (bif (decide ((a0.1.1.length:Int)>0)) then (bif (a1.whole==(-64)) then true else (a2.whole==64)) else false) then (some (([]:(List fold_option)),false)) else (some (a0.1.1,true))) else (none)
def Kj (a1:((List fold_option)×Bool)) (a0:(List fold_Guess)):Option ((List fold_Guess)×Bool):=some (a0,a1.2)
def Hp (a1:Int) (k3:((List fold_Guess)->Int->Option ((List fold_Guess)×Bool))) (a0:(List fold_Guess)):Option ((List fold_Guess)×Bool):=(ck (a1+1)).bind λa2=>k3 a0 a2
def Hq (a1:Int) (k5:((List fold_Guess)->Int->Option ((List fold_Guess)×Bool))) (a0:(List fold_Guess)):Option ((List fold_Guess)×Bool):=(ck (a1+1)).bind λa2=>k5 a0 a2
def F4 (a4:((List fold_option)×Bool)) (a6:Int) (k3:((List fold_Guess)->Int->Option ((List fold_Guess)×Bool))) (a0:fold_option) (k5:((List fold_Guess)->Int->Option ((List fold_Guess)×Bool))) (a3:(List fold_Guess)) (a2:Int):Option ((List fold_Guess)×Bool):=bif (decide (a2<(a4.1.length:Int))) then ((Ax a4.1 a2).bind λa1=>bif ((A6 a0.speed a1.speed).2) then ((apd 32 a3 ([(fold_Guess.mk (a0.whole,a1.whole) (api_Span.mk (((A6 a0.speed a1.speed).1).Lo) (((A6 a0.speed a1.speed).1).Hi)))])).bind λa5=>Hq a2 k5 a5) else (Hq a2 k5 a3)) else (Hp a6 k3 a3)
def D4 (a2:((List fold_option)×Bool)) (a1:Int) (k3:((List fold_Guess)->Int->Option ((List fold_Guess)×Bool))) (a0:fold_option):Nat->(List fold_Guess)->Int->Option ((List fold_Guess)×Bool)
  | 0,_,_=>none
  | n+1,a3,a4=>F4 a2 a1 k3 a0 (D4 a2 a1 k3 a0 n) a3 a4
def F3 (F:Nat) (y4:((List fold_option)×Bool)) (a2:((List fold_option)×Bool)) (k3:((List fold_Guess)->Int->Option ((List fold_Guess)×Bool))) (a1:(List fold_Guess)) (a0:Int):Option ((List fold_Guess)×Bool):=bif (decide (a0<(y4.1.length:Int))) then ((Ax y4.1 a0).bind λa3=>D4 a2 a0 k3 a3 F a1 0) else (Kj a2 a1)
def D3 (F:Nat) (y4:((List fold_option)×Bool)) (a0:((List fold_option)×Bool)):Nat->(List fold_Guess)->Int->Option ((List fold_Guess)×Bool)
  | 0,_,_=>none
  | n+1,a1,a2=>F3 F y4 a0 (D3 F y4 a0 n) a1 a2
def Ki (F:Nat) (p0:pulse_Train) (p1:api_Echo) (p2:Int) (y4:((List fold_option)×Bool)):Option ((List fold_Guess)×Bool):=(Mz F p0 (api_Echo.mk p1.Kind p1.Power ((api_Span.mk p1.Steps.1.Lo p1.Steps.1.Hi),(api_Span.mk p1.Steps.2.Lo p1.Steps.2.Hi)) p1.Spread p1.Ratio p1.Match p1.Turn) 1 p2).bind λa0=>D3 F y4 a0 F ([]) 0
def Kk (a0:(List fold_Guess)):Option ((List fold_Guess)×Bool):=some (a0,true)
def F5 (y4:((List fold_option)×Bool)) (k8:((List fold_Guess)->Int->Option ((List fold_Guess)×Bool))) (a1:(List fold_Guess)) (a0:Int):Option ((List fold_Guess)×Bool):=bif (decide (a0<(y4.1.length:Int))) then ((Ax y4.1 a0).bind λa2=>(apd 32 a1 ([(fold_Guess.mk (a2.whole,0) a2.speed)])).bind λa3=>(ck (a0+1)).bind λa4=>k8 a3 a4) else (Kk a1)
def E3 (y4:((List fold_option)×Bool)):Nat->(List fold_Guess)->Int->Option ((List fold_Guess)×Bool)
  | 0,_,_=>none
  | n+1,a0,a1=>F5 y4 (E3 y4 n) a0 a1
def Jt (F:Nat) (p0:pulse_Train) (p1:api_Echo) (p2:Int):Option ((List fold_Guess)×Bool):=(Mz F p0 (api_Echo.mk p1.Kind p1.Power ((api_Span.mk p1.Steps.1.Lo p1.Steps.1.Hi),(api_Span.mk p1.Steps.2.Lo p1.Steps.2.Hi)) p1.Spread p1.Ratio p1.Match p1.Turn) 0 p2).bind λy4=>bif (!y4.2) then (some (([]:(List fold_Guess)),false)) else (bif (p0.Kind==1) then (E3 y4 F ([]) 0) else (Ki F p0 p1 p2 y4))
def C0 (F:Nat) (p0:(List api_Span)):Option (List api_Span):=(apd 16 ([]:List api_Span) p0).bind λl5=>some l5
def J2 (a0:(List api_Span)):Option (List api_Span):=some a0
def D0 (a1:Int) (k2:(Int->(List api_Span)->Option (List api_Span))) (a0:(List api_Span)):Option (List api_Span):=(ck (a1+1)).bind λa2=>k2 a2 a0
def By (y9:(List api_Span)) (k2:(Int->(List api_Span)->Option (List api_Span))) (a2:Int) (a0:(List api_Span)):Option (List api_Span):=bif (decide (a2<(y9.length:Int))) then ((Ax y9 a2).bind λa1=>(gd (((decide ((a0.length:Int)>0))==true&&true)) (ck ((a0.length:Int)-1)) 0).bind λa9=>(gd (((decide ((a0.length:Int)>0))==true&&true)) (Ax a0 a9) default).bind λa7=>bif (bif (decide ((a0.length:Int)>0)) then (decide (a1.Lo<=a7.Hi)) else false) then ((ck ((a0.length:Int)-1)).bind λa4=>(ck ((a0.length:Int)-1)).bind λaA=>(Ax a0 aA).bind λa3=>(Ax a0 a4).bind λa8=>(J5 a0 a4 (api_Span.mk a8.Lo (if a1.Hi>a3.Hi then a1.Hi else a3.Hi))).bind λa5=>D0 a2 k2 a5) else ((apd 16 a0 ([a1])).bind λa6=>D0 a2 k2 a6)) else (J2 a0)
def Bi (y9:(List api_Span)):Nat->Int->(List api_Span)->Option (List api_Span)
  | 0,_,_=>none
  | n+1,a1,a0=>By y9 (Bi y9 n) a1 a0
def Cl (F:Nat) (p0:(List api_Span)):Option (List api_Span):=(C0 F p0).bind λy5=>(G4 F y5).bind λy9=>Bi y9 F 0 ([])
def M6 (a0:(List Int)):Option (List Int):=some a0
def Kc (a1:Int) (k2:((List Int)->Int->Option (List Int))) (a0:(List Int)):Option (List Int):=(ck (a1+1)).bind λa2=>k2 a0 a2
def Ge (p0:(List (List api_Span))) (k2:((List Int)->Int->Option (List Int))) (a1:(List Int)) (a0:Int):Option (List Int):=bif (decide (a0<(p0.length:Int))) then ((Ax p0 a0).bind λa3=>bif (decide ((a3.length:Int)>0)) then ((apd 8 a1 ([a0])).bind λa2=>Kc a0 k2 a2) else (Kc a0 k2 a1)) else (M6 a1)
def Gf (p0:(List (List api_Span))):Nat->(List Int)->Int->Option (List Int)
  | 0,_,_=>none
  | n+1,a0,a1=>Ge p0 (Gf p0 n) a0 a1
def Lr (F:Nat) (p0:(List (List api_Span))):Option (List Int):=Gf p0 F ([]) 0
def Dl (F:Nat) (p0:fold_web) (p1:fold_place) (p2:fold_place) (p3:Int):Option fold_web:=(apd 24 ((lkM p0.bonds p1).getD []) ([(fold_bond.mk p2 p3)])).bind λa0=>(apd 24 ((lkM (upM p0.bonds p1 a0) p2).getD []) ([(fold_bond.mk p1 p3)])).bind λa1=>some (fold_web.mk p0.sets (upM (upM p0.bonds p1 a0) p2 a1))
def Bu (F:Nat) (p0:(List (List api_Span))):Option (List (List api_Span)):=(apd 24 ([]:List (List api_Span)) p0).bind λl7=>some l7
def P3 (a0:(List (List (List api_Span)))) (a1:(List (fold_place×(List fold_bond)))):Option fold_web:=some (fold_web.mk a0 a1)
def M7 (a2:Int) (k2:((List (List (List api_Span)))->(List (fold_place×(List fold_bond)))->Int->Option fold_web)) (a0:(List (List (List api_Span)))) (a1:(List (fold_place×(List fold_bond)))):Option fold_web:=(ck (a2+1)).bind λa3=>k2 a0 a1 a3
def Fi (F:Nat) (a4:Int) (k2:((List (List (List api_Span)))->(List (fold_place×(List fold_bond)))->Int->Option fold_web)) (a3:(List (List api_Span))) (a0:(List (List (List api_Span)))) (a1:(List (fold_place×(List fold_bond)))):Option fold_web:=(Bu F a3).bind λa5=>(apd 24 a0 ([a5])).bind λa2=>M7 a4 k2 a2 a1
def Gj (a2:Int) (k5:((List (List (List api_Span)))->(List (fold_place×(List fold_bond)))->Int->Option fold_web)) (a0:(List (List (List api_Span)))) (a1:(List (fold_place×(List fold_bond)))):Option fold_web:=(ck (a2+1)).bind λa3=>k5 a0 a1 a3
def Gi (F:Nat) (p0:(List (List (List api_Span)))) (p1:Int) (p2:Int) (a4:Int) (a5:Int) (k5:((List (List (List api_Span)))->(List (fold_place×(List fold_bond)))->Int->Option fold_web)) (a1:Int) (a2:(List (List (List api_Span)))) (a3:(List (fold_place×(List fold_bond)))) (k8:(Int->Option fold_web)) (a0:Int):Option fold_web:=(ck ((p0.length:Int)-1)).bind λa6=>bif (decide (a0<=(if a6<p2 then a6 else p2))) then ((ck (a4+a0)).bind λaB=>(Ht aB (p0.length:Int)).bind λa7=>(Ax p0 a7).bind λa9=>(Ax a9 a1).bind λaA=>bif (decide ((aA.length:Int)>0)) then ((ck (p1*a0)).bind λaC=>(Dl F (fold_web.mk a2 a3) (fold_place.mk a4 a1) (fold_place.mk a7 a1) aC).bind λa8=>Gj a5 k5 a8.sets a8.bonds) else ((ck (a0+1)).bind λaD=>k8 aD)) else (Gj a5 k5 a2 a3)
def Fj (F:Nat) (p0:(List (List (List api_Span)))) (p1:Int) (p2:Int) (a3:Int) (a4:Int) (k5:((List (List (List api_Span)))->(List (fold_place×(List fold_bond)))->Int->Option fold_web)) (a2:Int) (a0:(List (List (List api_Span)))) (a1:(List (fold_place×(List fold_bond)))):Nat->Int->Option fold_web
  | 0,_=>none
  | n+1,a5=>Gi F p0 p1 p2 a3 a4 k5 a2 a0 a1 (Fj F p0 p1 p2 a3 a4 k5 a2 a0 a1 n) a5
def Hu (F:Nat) (p0:(List (List (List api_Span)))) (p1:Int) (p2:Int) (a3:Int) (a4:Int) (k5:((List (List (List api_Span)))->(List (fold_place×(List fold_bond)))->Int->Option fold_web)) (a2:Int) (a0:(List (List (List api_Span)))) (a1:(List (fold_place×(List fold_bond)))):Option fold_web:=Fj F p0 p1 p2 a3 a4 k5 a2 a0 a1 F 1
def Gh (F:Nat) (p0:(List (List (List api_Span)))) (p1:Int) (p2:Int) (a2:Int) (k2:((List (List (List api_Span)))->(List (fold_place×(List fold_bond)))->Int->Option fold_web)) (a7:(List (List api_Span))) (a3:(List Int)) (k5:((List (List (List api_Span)))->(List (fold_place×(List fold_bond)))->Int->Option fold_web)) (a4:(List (List (List api_Span)))) (a5:(List (fold_place×(List fold_bond)))) (a0:Int):Option fold_web:=bif (decide (a0<(a3.length:Int))) then ((Ax a3 a0).bind λa1=>(gd (((decide (a0>0))==true&&true)) (ck (a0-1)) 0).bind λaB=>(gd (((decide (a0>0))==true&&true)) (Ax a3 aB) default).bind λa8=>(gd (((decide (a0>0))==true&&true)) (ck (a1-a8)) 0).bind λaC=>bif (bif (decide (a0>0)) then (decide (aC<=p2)) else false) then ((ck (a0-1)).bind λaD=>(Ax a3 aD).bind λa9=>(ck (a0-1)).bind λaE=>(Ax a3 aE).bind λaA=>(ck (a1-aA)).bind λaF=>(ck (p1*aF)).bind λaG=>(Dl F (fold_web.mk a4 a5) (fold_place.mk a2 a9) (fold_place.mk a2 a1) aG).bind λa6=>Hu F p0 p1 p2 a2 a0 k5 a1 a6.sets a6.bonds) else (Hu F p0 p1 p2 a2 a0 k5 a1 a4 a5)) else (Fi F a2 k2 a7 a4 a5)
def De (F:Nat) (p0:(List (List (List api_Span)))) (p1:Int) (p2:Int) (a1:Int) (k2:((List (List (List api_Span)))->(List (fold_place×(List fold_bond)))->Int->Option fold_web)) (a0:(List (List api_Span))) (a2:(List Int)):Nat->(List (List (List api_Span)))->(List (fold_place×(List fold_bond)))->Int->Option fold_web
  | 0,_,_,_=>none
  | n+1,a3,a4,a5=>Gh F p0 p1 p2 a1 k2 a0 a2 (De F p0 p1 p2 a1 k2 a0 a2 n) a3 a4 a5
def Gg (F:Nat) (p0:(List (List (List api_Span)))) (p1:Int) (p2:Int) (k2:((List (List (List api_Span)))->(List (fold_place×(List fold_bond)))->Int->Option fold_web)) (a1:(List (List (List api_Span)))) (a2:(List (fold_place×(List fold_bond)))) (a0:Int):Option fold_web:=bif (decide (a0<(p0.length:Int))) then ((Ax p0 a0).bind λa3=>(Lr F a3).bind λa4=>De F p0 p1 p2 a0 k2 a3 a4 F a1 a2 0) else (P3 a1 a2)
def Ej (F:Nat) (p0:(List (List (List api_Span)))) (p1:Int) (p2:Int):Nat->(List (List (List api_Span)))->(List (fold_place×(List fold_bond)))->Int->Option fold_web
  | 0,_,_,_=>none
  | n+1,a0,a1,a2=>Gg F p0 p1 p2 (Ej F p0 p1 p2 n) a0 a1 a2
def Ps (F:Nat) (p0:(List (List (List api_Span)))) (p1:Int) (p2:Int):Option fold_web:=Ej F p0 p1 p2 F ([]) ([]:List (fold_place×(List fold_bond))) 0
def Dd (F:Nat) (p0:fold_place) (c0_:(List (fold_place×Bool))) (c1_:(List fold_place)):Option ((List (fold_place×Bool))×(List fold_place)):=bif (!((lkM c0_ p0).getD false)) then ((apd 16 c1_ ([p0])).bind λl6=>some ((upM c0_ p0 true),l6)) else (some (c0_,c1_))
def Dw (F:Nat) (a0:(List api_Span)):Option (List api_Span):=(Cl F a0).bind λa1=>some a1
def Dx (p0:(List api_Span)) (p1:(List api_Span)) (a0:Int) (a1:Int) (k2:((List api_Span)->Int->Int->Option (List api_Span))) (a2:(List api_Span)):Option (List api_Span):=(Ax p0 a0).bind λa3=>(Ax p1 a1).bind λa4=>bif (decide (a3.Hi<a4.Hi)) then ((ck (a0+1)).bind λa5=>k2 a2 a5 a1) else ((ck (a1+1)).bind λa6=>k2 a2 a0 a6)
def Cp (F:Nat) (p0:(List api_Span)) (p1:(List api_Span)) (k2:((List api_Span)->Int->Int->Option (List api_Span))) (a2:(List api_Span)) (a0:Int) (a1:Int):Option (List api_Span):=bif (bif (decide (a0<(p0.length:Int))) then (decide (a1<(p1.length:Int))) else false) then ((Ax p0 a0).bind λa3=>(Ax p1 a1).bind λa4=>bif ((A6 a3 a4).2) then ((apd 16 a2 ([(api_Span.mk (((A6 a3 a4).1).Lo) (((A6 a3 a4).1).Hi))])).bind λa5=>Dx p0 p1 a0 a1 k2 a5) else (Dx p0 p1 a0 a1 k2 a2)) else (Dw F a2)
def Cb (F:Nat) (p0:(List api_Span)) (p1:(List api_Span)):Nat->(List api_Span)->Int->Int->Option (List api_Span)
  | 0,_,_,_=>none
  | n+1,a0,a1,a2=>Cp F p0 p1 (Cb F p0 p1 n) a0 a1 a2
def Fm (F:Nat) (p0:(List api_Span)) (p1:(List api_Span)):Option (List api_Span):=Cb F p0 p1 F ([]) 0 0
def F9 (F:Nat) (a0:(List api_Span)):Option (List api_Span):=(Cl F a0).bind λa1=>some a1
def Cq (F:Nat) (p0:(List api_Span)) (p1:Int) (k2:(Int->(List api_Span)->Option (List api_Span))) (a0:Int) (a1:(List api_Span)):Option (List api_Span):=bif (decide (a0<(p0.length:Int))) then ((Ax p0 a0).bind λa2=>(ck (a2.Lo-p1)).bind λa4=>(ck (a2.Hi+p1)).bind λa5=>(apd 16 a1 ([(api_Span.mk a4 a5)])).bind λa3=>(ck (a0+1)).bind λa6=>k2 a6 a3) else (F9 F a1)
def Cr (F:Nat) (p0:(List api_Span)) (p1:Int):Nat->Int->(List api_Span)->Option (List api_Span)
  | 0,_,_=>none
  | n+1,a1,a0=>Cq F p0 p1 (Cr F p0 p1 n) a1 a0
def Gt (F:Nat) (p0:(List api_Span)) (p1:Int):Option (List api_Span):=Cr F p0 p1 F 0 ([])
def E8 (F:Nat) (p0:(List api_Span)) (p1:(List api_Span)) (p2:Int):Option (List api_Span):=(Gt F p1 p2).bind λy8=>(Fm F p0 y8).bind λa0=>some a0
def Cx:Option Bool:=some true
def Ay (p0:(List api_Span)) (p1:(List api_Span)) (k2:(Int->Option Bool)) (a0:Int):Option Bool:=bif (decide (a0<(p0.length:Int))) then ((Ax p0 a0).bind λa1=>(Ax p1 a0).bind λa2=>bif (!(((a1.Lo:Int)==a2.Lo)&&(((a1.Hi:Int)==a2.Hi)&&true))) then (some false) else ((ck (a0+1)).bind λa3=>k2 a3)) else (Cx)
def Az (p0:(List api_Span)) (p1:(List api_Span)):Nat->Int->Option Bool
  | 0,_=>none
  | n+1,a0=>Ay p0 p1 (Az p0 p1 n) a0
def Bo (F:Nat) (p0:(List api_Span)) (p1:(List api_Span)):Option Bool:=bif ((p0.length:Int) != (p1.length:Int)) then (some false) else (Az p0 p1 F 0)
def N7 (a1:(List fold_place)) (a0:(List (List (List api_Span)))) (a2:(List (fold_place×Bool))):Option (List (List (List api_Span))):=some a0
def Eu (a3:Int) (k4:((List fold_place)->(List (List (List api_Span)))->(List (fold_place×Bool))->Int->Option (List (List (List api_Span))))) (a0:(List fold_place)) (a1:(List (List (List api_Span)))) (a2:(List (fold_place×Bool))):Option (List (List (List api_Span))):=(ck (a3+1)).bind λa4=>k4 a0 a1 a2 a4
def Et (F:Nat) (y5:fold_web) (k3:((List fold_place)->(List (List (List api_Span)))->(List (fold_place×Bool))->Option (List (List (List api_Span))))) (a2:fold_place) (k4:((List fold_place)->(List (List (List api_Span)))->(List (fold_place×Bool))->Int->Option (List (List (List api_Span))))) (a4:(List fold_place)) (a1:(List (List (List api_Span)))) (a5:(List (fold_place×Bool))) (a3:Int):Option (List (List (List api_Span))):=bif (decide (a3<((((lkM y5.bonds a2).getD []).length:Nat):Int))) then ((Ax ((lkM y5.bonds a2).getD []) a3).bind λa0=>(Ax a1 a0.to.ray).bind λaC=>(Ax aC a0.to.gate).bind λa6=>(Ax a1 a2.ray).bind λaD=>(Ax aD a2.gate).bind λaE=>(E8 F a6 aE a0.most).bind λa8=>(Bo F a6 a8).bind λaF=>bif (!aF) then ((Ax a1 a0.to.ray).bind λa7=>(Ax a7 a0.to.gate).bind λaG=>(J5 a7 a0.to.gate a8).bind λaA=>(J5 a1 a0.to.ray aA).bind λaB=>(Dd F a0.to a5 a4).bind λa9=>Eu a3 k4 a9.2 aB a9.1) else (Eu a3 k4 a4 a1 a5)) else (k3 a4 a1 a5)
def C5 (F:Nat) (y5:fold_web) (k3:((List fold_place)->(List (List (List api_Span)))->(List (fold_place×Bool))->Option (List (List (List api_Span))))) (a0:fold_place):Nat->(List fold_place)->(List (List (List api_Span)))->(List (fold_place×Bool))->Int->Option (List (List (List api_Span)))
  | 0,_,_,_,_=>none
  | n+1,a1,a2,a3,a4=>Et F y5 k3 a0 (C5 F y5 k3 a0 n) a1 a2 a3 a4
def Es (F:Nat) (y5:fold_web) (k3:((List fold_place)->(List (List (List api_Span)))->(List (fold_place×Bool))->Option (List (List (List api_Span))))) (a0:(List fold_place)) (a1:(List (List (List api_Span)))) (a2:(List (fold_place×Bool))):Option (List (List (List api_Span))):=bif (decide ((a0.length:Int)>0)) then ((Ax a0 0).bind λa3=>(Ud a0 1 (a0.length:Int)).bind λa4=>C5 F y5 k3 a3 F a4 a1 (P6 a2 a3) 0) else (N7 a0 a1 a2)
def Dh (F:Nat) (y5:fold_web):Nat->(List fold_place)->(List (List (List api_Span)))->(List (fold_place×Bool))->Option (List (List (List api_Span)))
  | 0,_,_,_=>none
  | n+1,a0,a1,a2=>Es F y5 (Dh F y5 n) a0 a1 a2
def Jf (F:Nat) (y5:fold_web) (a0:(List fold_place)) (a1:(List (fold_place×Bool))):Option (List (List (List api_Span))):=Dh F y5 F a0 y5.sets a1
def Jg (a2:Int) (k6:((List fold_place)->(List (fold_place×Bool))->Int->Option (List (List (List api_Span))))) (a0:(List fold_place)) (a1:(List (fold_place×Bool))):Option (List (List (List api_Span))):=(ck (a2+1)).bind λa3=>k6 a0 a1 a3
def Fz (F:Nat) (a3:Int) (k6:((List fold_place)->(List (fold_place×Bool))->Int->Option (List (List (List api_Span))))) (a4:(List Int)) (k8:((List fold_place)->(List (fold_place×Bool))->Int->Option (List (List (List api_Span))))) (a1:(List fold_place)) (a2:(List (fold_place×Bool))) (a0:Int):Option (List (List (List api_Span))):=bif (decide (a0<(a4.length:Int))) then ((Ax a4 a0).bind λa6=>(Dd F (fold_place.mk a3 a6) a2 a1).bind λa5=>(ck (a0+1)).bind λa7=>k8 a5.2 a5.1 a7) else (Jg a3 k6 a1 a2)
def Dj (F:Nat) (a0:Int) (k6:((List fold_place)->(List (fold_place×Bool))->Int->Option (List (List (List api_Span))))) (a1:(List Int)):Nat->(List fold_place)->(List (fold_place×Bool))->Int->Option (List (List (List api_Span)))
  | 0,_,_,_=>none
  | n+1,a2,a3,a4=>Fz F a0 k6 a1 (Dj F a0 k6 a1 n) a2 a3 a4
def Fy (F:Nat) (p0:(List (List (List api_Span)))) (y5:fold_web) (k6:((List fold_place)->(List (fold_place×Bool))->Int->Option (List (List (List api_Span))))) (a1:(List fold_place)) (a2:(List (fold_place×Bool))) (a0:Int):Option (List (List (List api_Span))):=bif (decide (a0<(p0.length:Int))) then ((Ax p0 a0).bind λa3=>(Lr F a3).bind λa4=>Dj F a0 k6 a4 F a1 a2 0) else (Jf F y5 a1 a2)
def Di (F:Nat) (p0:(List (List (List api_Span)))) (y5:fold_web):Nat->(List fold_place)->(List (fold_place×Bool))->Int->Option (List (List (List api_Span)))
  | 0,_,_,_=>none
  | n+1,a0,a1,a2=>Fy F p0 y5 (Di F p0 y5 n) a0 a1 a2
def Mk (F:Nat) (p0:(List (List (List api_Span)))) (p1:Int) (p2:Int):Option (List (List (List api_Span))):=(Ps F p0 p1 p2).bind λy5=>Di F p0 y5 F ([]) ([]:List (fold_place×Bool)) 0
def L7 (a0:(List fold_Guess)):Option fold_Found:=(Ax ([4,2,3]) (if (a0.length:Int)<2 then (a0.length:Int) else 2)).bind λa1=>some (fold_Found.mk a1 a0)
def Ju (a1:Int) (k2:(Int->(List fold_Guess)->Option fold_Found)) (a0:(List fold_Guess)):Option fold_Found:=(ck (a1+1)).bind λa2=>k2 a2 a0
def Hg (F:Nat) (p0:(List fold_Guess)) (p1:(List api_Span)) (k2:(Int->(List fold_Guess)->Option fold_Found)) (a0:Int) (a2:(List fold_Guess)):Option fold_Found:=bif (decide (a0<(p0.length:Int))) then ((Ax p0 a0).bind λa3=>(Fm F p1 ([a3.Speed])).bind λa1=>bif (decide ((a1.length:Int)>0)) then ((Ax a1 0).bind λa5=>(ck ((a1.length:Int)-1)).bind λa7=>(Ax a1 a7).bind λa6=>(apd 32 a2 ([(fold_Guess.mk (a3.Whole.1,a3.Whole.2) (api_Span.mk a5.Lo a6.Hi))])).bind λa4=>Ju a0 k2 a4) else (Ju a0 k2 a2)) else (L7 a2)
def Hh (F:Nat) (p0:(List fold_Guess)) (p1:(List api_Span)):Nat->Int->(List fold_Guess)->Option fold_Found
  | 0,_,_=>none
  | n+1,a1,a0=>Hg F p0 p1 (Hh F p0 p1 n) a1 a0
def R7 (F:Nat) (p0:(List fold_Guess)) (p1:(List api_Span)):Option fold_Found:=Hh F p0 p1 F 0 ([])
def L4 (a0:(List (List fold_Found))):Option ((List (List fold_Found))×Int):=some (a0,0)
def L5 (a1:Int) (k3:(Int->(List (List fold_Found))->Option ((List (List fold_Found))×Int))) (a0:(List (List fold_Found))):Option ((List (List fold_Found))×Int):=(ck (a1+1)).bind λa2=>k3 a2 a0
def Gs (a1:Int) (a6:Int) (a0:(List (List fold_Found))) (k5:(Int->(List (List fold_Found))->Option ((List (List fold_Found))×Int))) (a7:Int) (a2:(List fold_Guess)):Option ((List (List fold_Found))×Int):=(Ax a0 a1).bind λa5=>(apd 32 a5 ([(fold_Found.mk a7 a2)])).bind λa3=>(Ax a0 a1).bind λa9=>(J5 a0 a1 a3).bind λa4=>(ck (a6+1)).bind λa8=>k5 a8 a4
def Fv (F:Nat) (a5:(List (List (List fold_Guess)))) (aB:(List (List (List api_Span)))) (a1:Int) (k3:(Int->(List (List fold_Found))->Option ((List (List fold_Found))×Int))) (a3:(List api_Echo)) (k5:(Int->(List (List fold_Found))->Option ((List (List fold_Found))×Int))) (a0:Int) (a2:(List (List fold_Found))):Option ((List (List fold_Found))×Int):=bif (decide (a0<(a3.length:Int))) then ((Ax a3 a0).bind λa6=>bif (a6.Kind==3) then ((Ax a5 a1).bind λa7=>(Ax a7 a0).bind λa8=>(Ax aB a1).bind λa9=>(Ax a9 a0).bind λaA=>(R7 F a8 aA).bind λa4=>Gs a1 a0 a2 k5 a4.State a4.Guesses) else (Gs a1 a0 a2 k5 1 ([]))) else (L5 a1 k3 a2)
def Eo (F:Nat) (a0:(List (List (List fold_Guess)))) (a3:(List (List (List api_Span)))) (a2:Int) (k3:(Int->(List (List fold_Found))->Option ((List (List fold_Found))×Int))) (a1:(List api_Echo)):Nat->Int->(List (List fold_Found))->Option ((List (List fold_Found))×Int)
  | 0,_,_=>none
  | n+1,a5,a4=>Fv F a0 a3 a2 k3 a1 (Eo F a0 a3 a2 k3 a1 n) a5 a4
def Fu (F:Nat) (p1:api_Sweep) (a2:(List (List (List fold_Guess)))) (a4:(List (List (List api_Span)))) (k3:(Int->(List (List fold_Found))->Option ((List (List fold_Found))×Int))) (a0:Int) (a1:(List (List fold_Found))):Option ((List (List fold_Found))×Int):=bif (decide (a0<(p1.Rays.length:Int))) then ((Ax p1.Rays a0).bind λa3=>Eo F a2 a4 a0 k3 a3 F 0 a1) else (L4 a1)
def Em (F:Nat) (p1:api_Sweep) (a0:(List (List (List fold_Guess)))) (a1:(List (List (List api_Span)))):Nat->Int->(List (List fold_Found))->Option ((List (List fold_Found))×Int)
  | 0,_,_=>none
  | n+1,a3,a2=>Fu F p1 a0 a1 (Em F p1 a0 a1 n) a3 a2
def Jd (F:Nat) (p1:api_Sweep) (p3:Int) (p4:Int) (a0:(List (List (List api_Span)))) (a1:(List (List (List fold_Guess)))):Option ((List (List fold_Found))×Int):=(Mk F a0 p3 p4).bind λa3=>(mkI 24 (p1.Rays.length:Int) ([]:(List fold_Found))).bind λa2=>Em F p1 a1 a3 F 0 a2
def L6 (a2:Int) (k7:((List (List (List api_Span)))->(List (List (List fold_Guess)))->Int->Option ((List (List fold_Found))×Int))) (a0:(List (List (List api_Span)))) (a1:(List (List (List fold_Guess)))):Option ((List (List fold_Found))×Int):=(ck (a2+1)).bind λa3=>k7 a0 a1 a3
def G8 (a2:Int) (k9:((List (List (List api_Span)))->(List (List (List fold_Guess)))->Int->Option ((List (List fold_Found))×Int))) (a0:(List (List (List api_Span)))) (a1:(List (List (List fold_Guess)))):Option ((List (List fold_Found))×Int):=(ck (a2+1)).bind λa3=>k9 a0 a1 a3
def Ho (F:Nat) (a3:Int) (a1:(List (List (List api_Span)))) (a0:Int) (k9:((List (List (List api_Span)))->(List (List (List fold_Guess)))->Int->Option ((List (List fold_Found))×Int))) (a4:(List (List (List fold_Guess)))) (a5:(List api_Span)):Option ((List (List fold_Found))×Int):=(Ax a1 a3).bind λa2=>(Cl F a5).bind λa8=>(Ax a2 a0).bind λa9=>(J5 a2 a0 a8).bind λa6=>(J5 a1 a3 a6).bind λa7=>G8 a0 k9 a7 a4
def F1 (F:Nat) (a8:Int) (a4:(List (List (List api_Span)))) (a9:Int) (k9:((List (List (List api_Span)))->(List (List (List fold_Guess)))->Int->Option ((List (List fold_Found))×Int))) (a2:((List fold_Guess)×Bool)) (a5:(List (List (List fold_Guess)))) (a3:(Int->(List api_Span)->Option ((List (List fold_Found))×Int))) (a0:Int) (a1:(List api_Span)):Option ((List (List fold_Found))×Int):=bif (decide (a0<(a2.1.length:Int))) then ((Ax a2.1 a0).bind λa7=>(apd 16 a1 ([a7.Speed])).bind λa6=>(ck (a0+1)).bind λaA=>a3 aA a6) else (Ho F a8 a4 a9 k9 a5 a1)
def F2 (F:Nat) (a2:Int) (a0:(List (List (List api_Span)))) (a3:Int) (k9:((List (List (List api_Span)))->(List (List (List fold_Guess)))->Int->Option ((List (List fold_Found))×Int))) (a4:((List fold_Guess)×Bool)) (a1:(List (List (List fold_Guess)))):Nat->Int->(List api_Span)->Option ((List (List fold_Found))×Int)
  | 0,_,_=>none
  | n+1,a6,a5=>F1 F a2 a0 a3 k9 a4 a1 (F2 F a2 a0 a3 k9 a4 a1 n) a6 a5
def Fx (F:Nat) (p0:pulse_Train) (p2:Int) (a3:Int) (k7:((List (List (List api_Span)))->(List (List (List fold_Guess)))->Int->Option ((List (List fold_Found))×Int))) (a6:(List api_Echo)) (k9:((List (List (List api_Span)))->(List (List (List fold_Guess)))->Int->Option ((List (List fold_Found))×Int))) (a4:(List (List (List api_Span)))) (a2:(List (List (List fold_Guess)))) (a1:Int):Option ((List (List fold_Found))×Int):=bif (decide (a1<(a6.length:Int))) then ((Ax a6 a1).bind λa0=>bif (a0.Kind != 3) then (G8 a1 k9 a4 a2) else ((Jt F p0 (api_Echo.mk a0.Kind a0.Power ((api_Span.mk a0.Steps.1.Lo a0.Steps.1.Hi),(api_Span.mk a0.Steps.2.Lo a0.Steps.2.Hi)) a0.Spread a0.Ratio a0.Match a0.Turn) p2).bind λa5=>bif (!a5.2) then (some (([]:(List (List fold_Found))),9)) else ((Ax a2 a3).bind λa7=>(Ax a7 a1).bind λaA=>(J5 a7 a1 a5.1).bind λa8=>(J5 a2 a3 a8).bind λa9=>F2 F a3 a4 a1 k9 a5 a9 F 0 ([])))) else (L6 a3 k7 a4 a2)
def Er (F:Nat) (p0:pulse_Train) (p2:Int) (a1:Int) (k7:((List (List (List api_Span)))->(List (List (List fold_Guess)))->Int->Option ((List (List fold_Found))×Int))) (a0:(List api_Echo)):Nat->(List (List (List api_Span)))->(List (List (List fold_Guess)))->Int->Option ((List (List fold_Found))×Int)
  | 0,_,_,_=>none
  | n+1,a2,a3,a4=>Fx F p0 p2 a1 k7 a0 (Er F p0 p2 a1 k7 a0 n) a2 a3 a4
def Fw (F:Nat) (p0:pulse_Train) (p1:api_Sweep) (p2:Int) (p3:Int) (p4:Int) (k7:((List (List (List api_Span)))->(List (List (List fold_Guess)))->Int->Option ((List (List fold_Found))×Int))) (a1:(List (List (List api_Span)))) (a2:(List (List (List fold_Guess)))) (a0:Int):Option ((List (List fold_Found))×Int):=bif (decide (a0<(p1.Rays.length:Int))) then ((Ax p1.Rays a0).bind λa3=>(mkI 24 (a3.length:Int) ([]:(List api_Span))).bind λa4=>(Ax a1 a0).bind λa8=>(mkI 24 (a3.length:Int) ([]:(List fold_Guess))).bind λa5=>(J5 a1 a0 a4).bind λa6=>(Ax a2 a0).bind λa9=>(J5 a2 a0 a5).bind λa7=>Er F p0 p2 a0 k7 a3 F a6 a7 0) else (Jd F p1 p3 p4 a1 a2)
def Ep (F:Nat) (p0:pulse_Train) (p1:api_Sweep) (p2:Int) (p3:Int) (p4:Int):Nat->(List (List (List api_Span)))->(List (List (List fold_Guess)))->Int->Option ((List (List fold_Found))×Int)
  | 0,_,_,_=>none
  | n+1,a0,a1,a2=>Fw F p0 p1 p2 p3 p4 (Ep F p0 p1 p2 p3 p4 n) a0 a1 a2
def Jc (F:Nat) (p0:pulse_Train) (p1:api_Sweep) (p2:Int) (p3:Int) (p4:Int):Option ((List (List fold_Found))×Int):=(Da F p0).bind λy7=>bif (y7 != 0) then (some (([]:(List (List fold_Found))),y7)) else ((E9 F p1).bind λy8=>bif (y8 != 0) then (some (([]:(List (List fold_Found))),y8)) else (bif (!(Lq p2)) then (some (([]:(List (List fold_Found))),3)) else (bif ((Fh p3 p4) != 0) then (some (([]:(List (List fold_Found))),(Fh p3 p4))) else ((mkI 24 (p1.Rays.length:Int) ([]:(List (List api_Span)))).bind λa0=>(mkI 24 (p1.Rays.length:Int) ([]:(List (List fold_Guess)))).bind λa1=>Ep F p0 p1 p2 p3 p4 F a0 a1 0))))
def E4 (p0:api_Span) (p1:Int):Bool:=bif (bif (decide (p0.Lo>=(IntKind.i64.wrap (0-p1)))) then (decide (p0.Lo<=p0.Hi)) else false) then (decide (p0.Hi<=p1)) else false
def Kx (F:Nat) (p0:api_Site) (p1:Int) (p2:api_Span):Option Int:=(El F p0).bind λy3=>bif (y3 != 0) then (none) else (bif (bif (bif (decide (p1<0)) then true else (decide (p1>256))) then true else (!(E4 p2 50000))) then (none) else (some 0))
def Po (F:Nat) (p0:Int):Option beam_slant:=(ck (p0*p0)).bind λx2=>(ck (262144-x2)).bind λx3=>(ck (1024*p0)).bind λx4=>(ck (p0*p0)).bind λx5=>(ck (262144+x5)).bind λx6=>some (beam_slant.mk x3 x4 x6)
def Pn (F:Nat) (p0:Int):Option (Int×Int×Int×Int):=bif (!(An p0 (-8) 264)) then (none) else ((Po F p0).bind λy1=>some (y1.c,y1.s,y1.d,0))
def No (F:Nat) (p0:Int) (p1:Int):Option Int:=(Pd p0 p1).bind λx1=>(ck (x1*p1)).bind λx2=>bif (decide (x2>p0)) then ((ck (x1-1)).bind λx3=>some x3) else (some x1)
def Pi (F:Nat) (p0:api_Site) (p1:Int) (p2:Int) (p3:api_Span) (p4:api_Span):Option (wind_Sight×Int):=(Kx F p0 p1 p4).bind λy5=>bif (y5 != 0) then (none) else ((gd (((decide (p2<0))==false&&true)) (ck (4*p0.Rose)) 0).bind λx6=>bif (bif (bif (decide (p2<0)) then true else (decide (p2>=x6))) then true else (!(E4 p3 200000))) then (none) else ((ck (2*p0.Rose)).bind λx7=>(ck (2*p2)).bind λx8=>(ck (x8+1)).bind λx9=>(beam_Direction F x7 x9).bind λa1=>(Pn F p1).bind λa0=>(ck (p3.Lo*a0.2.2.1)).bind λa2=>(ck (p4.Hi*a0.2.1)).bind λa3=>(ck (a2-a3)).bind λa4=>(No F a4 a0.1).bind λa8=>(ck (p4.Lo*a0.2.1)).bind λa5=>(ck (p3.Hi*a0.2.2.1)).bind λa6=>(ck (a5-a6)).bind λa7=>(No F a7 a0.1).bind λa9=>some ((wind_Sight.mk a1.1 a1.2.1 a1.2.2.1 (api_Span.mk a8 (IntKind.i64.wrap (0-a9)))),0)))
def Q7 (a0:(List wind_Sight)):Option ((List wind_Sight)×Int):=some (a0,0)
def Hl (F:Nat) (p0:api_Site) (p1:Int) (p2:(List wind_Ray)) (p3:api_Span) (k2:((List wind_Sight)->Int->Option ((List wind_Sight)×Int))) (a2:(List wind_Sight)) (a1:Int):Option ((List wind_Sight)×Int):=bif (decide (a1<(p2.length:Int))) then ((Ax p2 a1).bind λa3=>(Pi F p0 p1 a3.Ray a3.Speed p3).bind λa0=>bif (a0.2 != 0) then (none) else ((apd 40 a2 ([(wind_Sight.mk a0.1.X a0.1.Y a0.1.L (api_Span.mk a0.1.Speed.Lo a0.1.Speed.Hi))])).bind λa4=>(ck (a1+1)).bind λa5=>k2 a4 a5)) else (Q7 a2)
def Hm (F:Nat) (p0:api_Site) (p1:Int) (p2:(List wind_Ray)) (p3:api_Span):Nat->(List wind_Sight)->Int->Option ((List wind_Sight)×Int)
  | 0,_,_=>none
  | n+1,a0,a1=>Hl F p0 p1 p2 p3 (Hm F p0 p1 p2 p3 n) a0 a1
def N3 (F:Nat) (p0:api_Site) (p1:Int) (p2:(List wind_Ray)) (p3:api_Span):Option ((List wind_Sight)×Int):=(El F p0).bind λy6=>bif (y6 != 0) then (none) else (bif (decide ((p2.length:Int)>360)) then (none) else ((Kx F p0 p1 p3).bind λy7=>bif (y7 != 0) then (none) else (Hm F p0 p1 p2 p3 F ([]) 0)))
def Fo (F:Nat) (a0:(api_Sweep×Bool)) (a2:(List wind_Ray)):Option ((List wind_Sight)×Bool):=(N3 F (api_Site.mk a0.1.Site.Name a0.1.Site.X a0.1.Site.Y a0.1.Site.Z a0.1.Site.Rose a0.1.Site.Gates a0.1.Site.Step a0.1.Site.Width) 0 a2 (api_Span.mk 0 0)).bind λa1=>some (a1.1,bif (a1.2==0) then ((a1.1.length:Int)==(a2.length:Int)) else false)
def Fp (a1:Int) (k2:((List wind_Ray)->Int->Option ((List wind_Sight)×Bool))) (a0:(List wind_Ray)):Option ((List wind_Sight)×Bool):=(ck (a1+1)).bind λa2=>k2 a0 a2
def Eb (F:Nat) (aA:(api_Sweep×Bool)) (a1:((List (List fold_Found))×Int)) (k2:((List wind_Ray)->Int->Option ((List wind_Sight)×Bool))) (a2:(List wind_Ray)) (a0:Int):Option ((List wind_Sight)×Bool):=bif (decide (a0<(a1.1.length:Int))) then ((Ax a1.1 a0).bind λa4=>bif ((a4.length:Int) != 1) then (none) else ((Ax a1.1 a0).bind λa5=>(Ax a5 0).bind λa6=>bif (a6.State==2) then ((Ax a1.1 a0).bind λa7=>(Ax a7 0).bind λa8=>(Ax a8.Guesses 0).bind λa9=>(apd 24 a2 ([(wind_Ray.mk a0 a9.Speed)])).bind λa3=>Fp a0 k2 a3) else (Fp a0 k2 a2))) else (Fo F aA a2)
def Dc (F:Nat) (a0:(api_Sweep×Bool)) (a1:((List (List fold_Found))×Int)):Nat->(List wind_Ray)->Int->Option ((List wind_Sight)×Bool)
  | 0,_,_=>none
  | n+1,a2,a3=>Eb F a0 a1 (Dc F a0 a1 n) a2 a3
def Gq (F:Nat) (p0:top_Blown) (p1:Int):Option ((List wind_Sight)×Bool):=(Jq F p0 p1).bind λa0=>bif (!a0.2) then (none) else ((Du F p0.Air).bind λa2=>(Jc F a2 (api_Sweep.mk (api_Site.mk a0.1.Site.Name a0.1.Site.X a0.1.Site.Y a0.1.Site.Z a0.1.Site.Rose a0.1.Site.Gates a0.1.Site.Step a0.1.Site.Width) a0.1.Tilt a0.1.Time a0.1.Rays) 30000 9000 1).bind λa1=>bif (bif (a1.2 != 0) then true else ((a1.1.length:Int) != (a0.1.Rays.length:Int))) then (none) else (Dc F a0 a1 F ([]) 0))
def Mb (F:Nat) (p0:top_Blown):Option Int:=(ck p0.Rose).bind λa0=>(Ht a0 3).bind λa1=>(ck (1+a1)).bind λa2=>some a2
def Ha (F:Nat) (p0:Int) (p1:Int) (p2:Int):Option Bool:=(gd (((bif (bif (bif (decide (p2>=1)) then (decide (p2<=64800)) else false) then (decide ((if IntKind.i64.wrap (0-p1)>if IntKind.i64.wrap (0-p0)>if p1>p0 then p1 else p0 then IntKind.i64.wrap (0-p0) else if p1>p0 then p1 else p0 then IntKind.i64.wrap (0-p1) else if IntKind.i64.wrap (0-p0)>if p1>p0 then p1 else p0 then IntKind.i64.wrap (0-p0) else if p1>p0 then p1 else p0)<=p2)) else false) then (decide ((if IntKind.i64.wrap (0-p1)<if IntKind.i64.wrap (0-p0)<if p1<p0 then p1 else p0 then IntKind.i64.wrap (0-p0) else if p1<p0 then p1 else p0 then IntKind.i64.wrap (0-p1) else if IntKind.i64.wrap (0-p0)<if p1<p0 then p1 else p0 then IntKind.i64.wrap (0-p0) else if p1<p0 then p1 else p0)>=(IntKind.i64.wrap (0-p2)))) else false)==true&&true)) (ck (p0*p0)) 0).bind λx1=>(gd (((bif (bif (bif (decide (p2>=1)) then (decide (p2<=64800)) else false) then (decide ((if IntKind.i64.wrap (0-p1)>if IntKind.i64.wrap (0-p0)>if p1>p0 then p1 else p0 then IntKind.i64.wrap (0-p0) else if p1>p0 then p1 else p0 then IntKind.i64.wrap (0-p1) else if IntKind.i64.wrap (0-p0)>if p1>p0 then p1 else p0 then IntKind.i64.wrap (0-p0) else if p1>p0 then p1 else p0)<=p2)) else false) then (decide ((if IntKind.i64.wrap (0-p1)<if IntKind.i64.wrap (0-p0)<if p1<p0 then p1 else p0 then IntKind.i64.wrap (0-p0) else if p1<p0 then p1 else p0 then IntKind.i64.wrap (0-p1) else if IntKind.i64.wrap (0-p0)<if p1<p0 then p1 else p0 then IntKind.i64.wrap (0-p0) else if p1<p0 then p1 else p0)>=(IntKind.i64.wrap (0-p2)))) else false)==true&&true)) (ck (p1*p1)) 0).bind λx2=>(gd (((bif (bif (bif (decide (p2>=1)) then (decide (p2<=64800)) else false) then (decide ((if IntKind.i64.wrap (0-p1)>if IntKind.i64.wrap (0-p0)>if p1>p0 then p1 else p0 then IntKind.i64.wrap (0-p0) else if p1>p0 then p1 else p0 then IntKind.i64.wrap (0-p1) else if IntKind.i64.wrap (0-p0)>if p1>p0 then p1 else p0 then IntKind.i64.wrap (0-p0) else if p1>p0 then p1 else p0)<=p2)) else false) then (decide ((if IntKind.i64.wrap (0-p1)<if IntKind.i64.wrap (0-p0)<if p1<p0 then p1 else p0 then IntKind.i64.wrap (0-p0) else if p1<p0 then p1 else p0 then IntKind.i64.wrap (0-p1) else if IntKind.i64.wrap (0-p0)<if p1<p0 then p1 else p0 then IntKind.i64.wrap (0-p0) else if p1<p0 then p1 else p0)>=(IntKind.i64.wrap (0-p2)))) else false)==true&&true)) (ck (x1+x2)) 0).bind λx3=>(gd (((bif (bif (bif (decide (p2>=1)) then (decide (p2<=64800)) else false) then (decide ((if IntKind.i64.wrap (0-p1)>if IntKind.i64.wrap (0-p0)>if p1>p0 then p1 else p0 then IntKind.i64.wrap (0-p0) else if p1>p0 then p1 else p0 then IntKind.i64.wrap (0-p1) else if IntKind.i64.wrap (0-p0)>if p1>p0 then p1 else p0 then IntKind.i64.wrap (0-p0) else if p1>p0 then p1 else p0)<=p2)) else false) then (decide ((if IntKind.i64.wrap (0-p1)<if IntKind.i64.wrap (0-p0)<if p1<p0 then p1 else p0 then IntKind.i64.wrap (0-p0) else if p1<p0 then p1 else p0 then IntKind.i64.wrap (0-p1) else if IntKind.i64.wrap (0-p0)<if p1<p0 then p1 else p0 then IntKind.i64.wrap (0-p0) else if p1<p0 then p1 else p0)>=(IntKind.i64.wrap (0-p2)))) else false)==true&&true)) (ck (p2*p2)) 0).bind λx4=>some (bif (bif (bif (bif (decide (p2>=1)) then (decide (p2<=64800)) else false) then (decide ((if IntKind.i64.wrap (0-p1)>if IntKind.i64.wrap (0-p0)>if p1>p0 then p1 else p0 then IntKind.i64.wrap (0-p0) else if p1>p0 then p1 else p0 then IntKind.i64.wrap (0-p1) else if IntKind.i64.wrap (0-p0)>if p1>p0 then p1 else p0 then IntKind.i64.wrap (0-p0) else if p1>p0 then p1 else p0)<=p2)) else false) then (decide ((if IntKind.i64.wrap (0-p1)<if IntKind.i64.wrap (0-p0)<if p1<p0 then p1 else p0 then IntKind.i64.wrap (0-p0) else if p1<p0 then p1 else p0 then IntKind.i64.wrap (0-p1) else if IntKind.i64.wrap (0-p0)<if p1<p0 then p1 else p0 then IntKind.i64.wrap (0-p0) else if p1<p0 then p1 else p0)>=(IntKind.i64.wrap (0-p2)))) else false) then (x3==x4) else false)
def Nm (F:Nat) (p0:wind_Sight):Option Int:=(Ha F p0.X p0.Y p0.L).bind λy2=>bif (bif y2 then (E4 p0.Speed 400000) else false) then (some 0) else (none)
def Me (F:Nat) (p0:wind_Sight):Option Bool:=(Nm F p0).bind λy2=>some (y2 != 0)
def C1:Option Int:=some (-1)
def Ap (F:Nat) (p0:(List wind_Sight)) (k2:(Int->Option Int)) (a0:Int):Option Int:=bif (decide (a0<(p0.length:Int))) then ((Ax p0 a0).bind λa1=>(Me F a1).bind λa3=>bif a3 then (some a0) else ((ck (a0+1)).bind λa2=>k2 a2)) else (C1)
def Ao (F:Nat) (p0:(List wind_Sight)):Nat->Int->Option Int
  | 0,_=>none
  | n+1,a0=>Ap F p0 (Ao F p0 n) a0
def Bt (F:Nat) (p0:(List wind_Sight)):Option Int:=Ao F p0 F 0
def Bn (F:Nat) (p0:(List wind_Sight)):Option Bool:=(Bt F p0).bind λy5=>some (decide (y5>=0))
def He (F:Nat) (p0:(List wind_Sight)):Option Int:=bif (decide ((p0.length:Int)>360)) then (none) else ((Bn F p0).bind λy5=>bif y5 then (none) else (some 0))
def wind_sky:wind_area:=(wind_area.mk ([(wind_border.mk 1 0 120000),(wind_border.mk 0 1 120000),(wind_border.mk (-1) 0 120000),(wind_border.mk 0 (-1) 120000)]))
def Bk (p0:wind_area):Bool:=(p0.circle.length:Int)==0
def C6 (F:Nat) (p0:(List wind_border)) (p1:Int):Option wind_border:=(ck (p1+(p0.length:Int))).bind λx5=>(Ht x5 (p0.length:Int)).bind λx6=>(Ax p0 x6).bind λu7=>some u7
def Fs (F:Nat) (p0:wind_area) (p1:Int):Option wind_corner:=(ck (p1+1)).bind λx6=>(C6 F p0.circle p1).bind λy8=>(C6 F p0.circle x6).bind λa0=>(ck (y8.c*a0.b)).bind λa1=>(ck (y8.b*a0.c)).bind λa2=>(ck (a1-a2)).bind λa3=>(ck (y8.a*a0.c)).bind λa4=>(ck (y8.c*a0.a)).bind λa5=>(ck (a4-a5)).bind λa6=>(ck (y8.a*a0.b)).bind λa7=>(ck (y8.b*a0.a)).bind λa8=>(ck (a7-a8)).bind λa9=>some (wind_corner.mk a3 a6 a9)
def H9 (p0:wind_big):Bool:=(Int.fdiv p0.high 9223372036854775808)==1
def Fg (F:Nat) (p0:wind_border) (p1:wind_corner):Option Bool:=(Dv F (wind_big.mk 0 0) p0.c p1.d).bind λy3=>(Dv F y3 (IntKind.i64.wrap (0-p0.a)) p1.u).bind λy4=>(Dv F y4 (IntKind.i64.wrap (0-p0.b)) p1.v).bind λy5=>some (H9 y5)
def Co:Option Int:=some (-1)
def Aw (p0:(List Bool)) (p1:Bool) (k2:(Int->Option Int)) (a0:Int):Option Int:=bif (decide (a0<(p0.length:Int))) then ((Ax p0 a0).bind λa1=>bif (p1==a1) then (some a0) else ((ck (a0+1)).bind λa2=>k2 a2)) else (Co)
def Aq (p0:(List Bool)) (p1:Bool):Nat->Int->Option Int
  | 0,_=>none
  | n+1,a0=>Aw p0 p1 (Aq p0 p1 n) a0
def C8 (F:Nat) (p0:(List Bool)) (p1:Bool):Option Int:=Aq p0 p1 F 0
def Bq (F:Nat) (p0:(List Bool)) (p1:Bool):Option Bool:=(C8 F p0 p1).bind λy4=>some (decide (y4>=0))
def E0 (F:Nat) (p0:(List Bool)) (p1:Int):Option Bool:=(ck (p1+(p0.length:Int))).bind λx4=>(Ht x4 (p0.length:Int)).bind λx5=>(Ax p0 x5).bind λu6=>some u6
def Jy (a0:(List wind_border)):Option wind_area:=some (wind_area.mk a0)
def H6 (a1:Int) (k4:((List wind_border)->Int->Option wind_area)) (a0:(List wind_border)):Option wind_area:=(ck (a1+1)).bind λa2=>k4 a0 a2
def H7 (p1:wind_border) (a1:Int) (k4:((List wind_border)->Int->Option wind_area)) (a3:Bool) (a4:Bool) (a0:(List wind_border)):Option wind_area:=bif (bif (!a3) then a4 else false) then ((apd 24 a0 ([p1])).bind λa2=>H6 a1 k4 a2) else (H6 a1 k4 a0)
def Ec (F:Nat) (p0:wind_area) (p1:wind_border) (a4:(List Bool)) (k4:((List wind_border)->Int->Option wind_area)) (a1:(List wind_border)) (a0:Int):Option wind_area:=bif (decide (a0<(p0.circle.length:Int))) then ((Ax p0.circle a0).bind λa6=>(ck (a0-1)).bind λa7=>(E0 F a4 a7).bind λa2=>(E0 F a4 a0).bind λa3=>bif (bif (!a2) then true else (!a3)) then ((apd 24 a1 ([a6])).bind λa5=>H7 p1 a0 k4 a2 a3 a5) else (H7 p1 a0 k4 a2 a3 a1)) else (Jy a1)
def Ef (F:Nat) (p0:wind_area) (p1:wind_border) (a0:(List Bool)):Nat->(List wind_border)->Int->Option wind_area
  | 0,_,_=>none
  | n+1,a1,a2=>Ec F p0 p1 a0 (Ef F p0 p1 a0 n) a1 a2
def H5 (F:Nat) (p0:wind_area) (p1:wind_border) (a0:(List Bool)):Option wind_area:=(Bq F a0 true).bind λa1=>bif (!a1) then (some p0) else (Ef F p0 p1 a0 F ([]) 0)
def Ed (F:Nat) (p0:wind_area) (p1:wind_border) (k7:(Int->Int->(List Bool)->Option wind_area)) (a2:Int) (a0:Int) (a1:(List Bool)):Option wind_area:=bif (decide (a0<a2)) then ((Fs F p0 a0).bind λa5=>(Fg F p1 a5).bind λa6=>(Ax a1 a0).bind λa7=>(J5 a1 a0 a6).bind λa3=>(ck (a0+1)).bind λa4=>k7 a2 a4 a3) else (H5 F p0 p1 a1)
def Eg (F:Nat) (p0:wind_area) (p1:wind_border):Nat->Int->Int->(List Bool)->Option wind_area
  | 0,_,_,_=>none
  | n+1,a1,a2,a0=>Ed F p0 p1 (Eg F p0 p1 n) a1 a2 a0
def H4 (F:Nat) (p0:wind_area) (p1:wind_border):Option wind_area:=(mkI 1 (p0.circle.length:Int) false).bind λa0=>Eg F p0 p1 F (a0.length:Int) 0 a0
def Ee (F:Nat) (p0:wind_area) (p1:wind_border) (k8:(Int->Option wind_area)) (a1:Int):Option wind_area:=bif (decide (a1<(p0.circle.length:Int))) then ((Ax p0.circle a1).bind λa0=>bif (((a0.a:Int)==p1.a)&&(((a0.b:Int)==p1.b)&&(((a0.c:Int)==p1.c)&&true))) then (some p0) else ((ck (a1+1)).bind λa2=>k8 a2)) else (H4 F p0 p1)
def Eh (F:Nat) (p0:wind_area) (p1:wind_border):Nat->Int->Option wind_area
  | 0,_=>none
  | n+1,a0=>Ee F p0 p1 (Eh F p0 p1 n) a0
def Kh (F:Nat) (p0:wind_area) (p1:wind_border):Option wind_area:=Eh F p0 p1 F 0
def K9 (a0:(List wind_border)):Option wind_area:=some (wind_area.mk a0)
def C3 (F:Nat) (p1:wind_Sight) (a4:Int) (a5:Int) (k2:((List wind_border)->Int->Option wind_area)) (a0:(List wind_border)) (a1:Int):Option wind_area:=bif (decide (a1<((2:Nat):Int))) then ((Ax ([(wind_border.mk p1.X p1.Y a4),(wind_border.mk (IntKind.i64.wrap (0-p1.X)) (IntKind.i64.wrap (0-p1.Y)) a5)]) a1).bind λa2=>bif (Bk (wind_area.mk a0)) then (none) else ((Kh F (wind_area.mk a0) a2).bind λa6=>(ck (a1+1)).bind λa3=>k2 a6.circle a3)) else (K9 a0)
def Cy (F:Nat) (p1:wind_Sight) (a0:Int) (a1:Int):Nat->(List wind_border)->Int->Option wind_area
  | 0,_,_=>none
  | n+1,a2,a3=>C3 F p1 a0 a1 (Cy F p1 a0 a1 n) a2 a3
def H8 (F:Nat) (p0:wind_area) (p1:wind_Sight) (p2:Int):Option wind_area:=(ck (p1.Speed.Hi+p2)).bind λa0=>(ck (a0*p1.L)).bind λa1=>(ck (p2-p1.Speed.Lo)).bind λa2=>(ck (a2*p1.L)).bind λa3=>Cy F p1 a1 a3 F p0.circle 0
def J9 (a0:(List wind_border)):Option wind_area:=some (wind_area.mk a0)
def Cf (F:Nat) (p1:(List wind_Sight)) (p2:Int) (k2:((List wind_border)->Int->Option wind_area)) (a1:(List wind_border)) (a0:Int):Option wind_area:=bif (decide (a0<(p1.length:Int))) then ((Ax p1 a0).bind λa2=>(H8 F (wind_area.mk a1) a2 p2).bind λa4=>(ck (a0+1)).bind λa3=>k2 a4.circle a3) else (J9 a1)
def Cg (F:Nat) (p1:(List wind_Sight)) (p2:Int):Nat->(List wind_border)->Int->Option wind_area
  | 0,_,_=>none
  | n+1,a0,a1=>Cf F p1 p2 (Cg F p1 p2 n) a0 a1
def D6 (F:Nat) (p0:wind_area) (p1:(List wind_Sight)) (p2:Int):Option wind_area:=Cg F p1 p2 F p0.circle 0
def Nn:Option (Int×Int):=some (0,0)
def Jr (F:Nat) (p0:(List wind_Sight)) (k2:(Int->Option (Int×Int))) (a0:Int):Option (Int×Int):=bif (decide (0<a0)) then ((ck (0+a0)).bind λa2=>(Pd a2 2).bind λa1=>(D6 F (wind_area.mk wind_sky.circle) p0 a1).bind λa3=>bif (Bk a3) then (none) else (k2 a1)) else (Nn)
def H3 (F:Nat) (p0:(List wind_Sight)):Nat->Int->Option (Int×Int)
  | 0,_=>none
  | n+1,a0=>Jr F p0 (H3 F p0 n) a0
def Mq (F:Nat) (p0:(List wind_Sight)):Option (Int×Int):=(He F p0).bind λy4=>bif (y4 != 0) then (none) else (H3 F p0 F 400000)
def Kp (a0:Int) (a1:Int):Option api_Span:=some (api_Span.mk a1 a0)
def D7 (F:Nat) (p0:wind_area) (p1:Int) (p2:Int) (p3:Int) (k2:(Int->Int->Int->Option api_Span)) (a1:Int) (a2:Int) (a3:Int):Option api_Span:=bif (decide (a2<(p0.circle.length:Int))) then ((Fs F p0 a2).bind λa0=>(Dv F (wind_big.mk 0 0) p1 a0.u).bind λa9=>(Dv F a9 p2 a0.v).bind λaA=>(ck (a0.d*p3)).bind λa6=>(J1 F aA a6).bind λa4=>(Dv F (wind_big.mk 0 0) (IntKind.i64.wrap (0-p1)) a0.u).bind λaB=>(Dv F aB (IntKind.i64.wrap (0-p2)) a0.v).bind λaC=>(ck (a0.d*p3)).bind λa7=>(J1 F aC a7).bind λa5=>(ck (a2+1)).bind λa8=>k2 (if IntKind.i64.wrap (0-a5)>a1 then IntKind.i64.wrap (0-a5) else a1) a8 (if a4<a3 then a4 else a3)) else (Kp a1 a3)
def D8 (F:Nat) (p0:wind_area) (p1:Int) (p2:Int) (p3:Int):Nat->Int->Int->Int->Option api_Span
  | 0,_,_,_=>none
  | n+1,a0,a1,a2=>D7 F p0 p1 p2 p3 (D8 F p0 p1 p2 p3 n) a0 a1 a2
def Gb (F:Nat) (p0:wind_area) (p1:Int) (p2:Int) (p3:Int):Option api_Span:=D8 F p0 p1 p2 p3 F (-240000) 0 240000
def Kw (F:Nat) (p0:(List wind_Sight)):Option (wind_Wind×Int):=(He F p0).bind λy5=>bif (y5 != 0) then (none) else ((D6 F (wind_area.mk wind_sky.circle) p0 0).bind λa0=>bif (Bk a0) then (none) else ((Gb F a0 1 0 1).bind λa1=>(Gb F a0 0 1 1).bind λa2=>some ((wind_Wind.mk a1 a2),0)))
def Nl (F:Nat) (p0:(List wind_Sight)):Option ((List Int)×Int):=(He F p0).bind λy5=>bif (y5 != 0) then (none) else ((D6 F (wind_area.mk wind_sky.circle) p0 0).bind λa0=>bif (!(Bk a0)) then (some (([]:(List Int)),4)) else (none))
def Nk (F:Nat) (p0:(List wind_Sight)) (p1:Int) (p2:Int) (p3:Int):Option (api_Span×Int):=(He F p0).bind λy5=>bif (y5 != 0) then (none) else ((Ha F p1 p2 p3).bind λy6=>bif (!y6) then (none) else ((D6 F (wind_area.mk wind_sky.circle) p0 0).bind λa0=>bif (Bk a0) then (none) else ((Gb F a0 p1 p2 p3).bind λa1=>some (a1,0))))
def Li (F:Nat):Option Bool:=(Gq F (top_Blown.mk 16000 0 0 (top_Unfolded.mk 0 200 150 0 0 0 0 ([]:(List Int)) 0 0 ([]:(List Int)) ([]:(List Int))) 0) 1).bind λy3=>(Kw F y3.1).bind λy6=>(gd (((bif (bif (bif (bif y3.2 then (y6.2==0) else false) then ((y3.1.length:Int)==4) else false) then (decide (y6.1.U.Lo<=1000)) else false) then (decide (y6.1.U.Hi>=1000)) else false)==true&&true)) (ck (y6.1.U.Hi-y6.1.U.Lo)) 0).bind λx8=>(gd (((bif (bif (bif (bif (bif (bif (bif y3.2 then (y6.2==0) else false) then ((y3.1.length:Int)==4) else false) then (decide (y6.1.U.Lo<=1000)) else false) then (decide (y6.1.U.Hi>=1000)) else false) then (decide (x8<20)) else false) then (decide (y6.1.V.Lo<=0)) else false) then (decide (y6.1.V.Hi>=0)) else false)==true&&true)) (ck (y6.1.V.Hi-y6.1.V.Lo)) 0).bind λx9=>some (bif (bif (bif (bif (bif (bif (bif (bif y3.2 then (y6.2==0) else false) then ((y3.1.length:Int)==4) else false) then (decide (y6.1.U.Lo<=1000)) else false) then (decide (y6.1.U.Hi>=1000)) else false) then (decide (x8<20)) else false) then (decide (y6.1.V.Lo<=0)) else false) then (decide (y6.1.V.Hi>=0)) else false) then (decide (x9<20)) else false)
def Lg (F:Nat) (p0:top_Blown):Option Bool:=(Mb F p0).bind λaP=>(Gq F p0 aP).bind λaD=>(ck p0.Another).bind λaI=>(Ht aI 3).bind λaJ=>(ck (1+aJ)).bind λaK=>(Gq F p0 aK).bind λaE=>bif (bif (!aD.2) then true else (!aE.2)) then (none) else ((apd 40 ([]:List wind_Sight) aD.1).bind λaH=>(apd 40 aH aE.1).bind λa9=>(Mq F a9).bind λaF=>(Kw F a9).bind λa8=>(Nl F a9).bind λaG=>(Nk F a9 4 (-3) 5).bind λaA=>(ck p0.U).bind λa0=>(ck p0.V).bind λa1=>bif (bif (bif (bif (bif (bif (aF.2 != 0) then true else (a8.2 != 0)) then true else (aG.2 != 4)) then true else (aA.2 != 0)) then true else (aF.1 != 0)) then true else ((aG.1.length:Int) != 0)) then (none) else ((ck (16*a8.1.U.Lo)).bind λa2=>(gd (((decide (a0>=a2))==true&&true)) (ck (16*a8.1.U.Hi)) 0).bind λa3=>(gd (((bif (decide (a0>=a2)) then (decide (a0<=a3)) else false)==true&&true)) (ck (16*a8.1.V.Lo)) 0).bind λa4=>(gd (((bif (bif (decide (a0>=a2)) then (decide (a0<=a3)) else false) then (decide (a1>=a4)) else false)==true&&true)) (ck (16*a8.1.V.Hi)) 0).bind λa5=>(gd (((bif (bif (bif (decide (a0>=a2)) then (decide (a0<=a3)) else false) then (decide (a1>=a4)) else false) then (decide (a1<=a5)) else false)==true&&true)) (ck (4*a0)) 0).bind λaL=>(gd (((bif (bif (bif (decide (a0>=a2)) then (decide (a0<=a3)) else false) then (decide (a1>=a4)) else false) then (decide (a1<=a5)) else false)==true&&true)) (ck (3*a1)) 0).bind λaM=>(gd (((bif (bif (bif (decide (a0>=a2)) then (decide (a0<=a3)) else false) then (decide (a1>=a4)) else false) then (decide (a1<=a5)) else false)==true&&true)) (ck (aL-aM)) 0).bind λa6=>(gd (((bif (bif (bif (decide (a0>=a2)) then (decide (a0<=a3)) else false) then (decide (a1>=a4)) else false) then (decide (a1<=a5)) else false)==true&&true)) (ck (80*aA.1.Lo)) 0).bind λa7=>(gd (((bif (bif (bif (bif (decide (a0>=a2)) then (decide (a0<=a3)) else false) then (decide (a1>=a4)) else false) then (decide (a1<=a5)) else false) then (decide (a6>=a7)) else false)==true&&true)) (ck (4*a0)) 0).bind λaN=>(gd (((bif (bif (bif (bif (decide (a0>=a2)) then (decide (a0<=a3)) else false) then (decide (a1>=a4)) else false) then (decide (a1<=a5)) else false) then (decide (a6>=a7)) else false)==true&&true)) (ck (3*a1)) 0).bind λaO=>(gd (((bif (bif (bif (bif (decide (a0>=a2)) then (decide (a0<=a3)) else false) then (decide (a1>=a4)) else false) then (decide (a1<=a5)) else false) then (decide (a6>=a7)) else false)==true&&true)) (ck (aN-aO)) 0).bind λaB=>(gd (((bif (bif (bif (bif (decide (a0>=a2)) then (decide (a0<=a3)) else false) then (decide (a1>=a4)) else false) then (decide (a1<=a5)) else false) then (decide (a6>=a7)) else false)==true&&true)) (ck (80*aA.1.Hi)) 0).bind λaC=>(gd (((bif (bif (bif (bif (bif (decide (a0>=a2)) then (decide (a0<=a3)) else false) then (decide (a1>=a4)) else false) then (decide (a1<=a5)) else false) then (decide (a6>=a7)) else false) then (decide (aB<=aC)) else false)==true&&true)) (Li F) default).bind λaQ=>some (bif (bif (bif (bif (bif (bif (decide (a0>=a2)) then (decide (a0<=a3)) else false) then (decide (a1>=a4)) else false) then (decide (a1<=a5)) else false) then (decide (a6>=a7)) else false) then (decide (aB<=aC)) else false) then aQ else false)))
abbrev CL:=@Calls Tryz.prog
abbrev CR:=@Pk Tryz.prog
abbrev CP (f:FuncId) (l:Array Value) (w:World) (v:Value):Prop:=Calls Tryz.prog f l w (λe w2=>e=.returned v/\Ext w w2)
end Go.Proofs.YtkdhnnfokfchpaaGreat
